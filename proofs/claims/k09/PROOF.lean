import PyProof.Rows.All
import Wide.All
import OpenK.AllK
import Wide.FinOn
import HandS.ForMost
import HandS.ForExc
import HandS.Walk
import HandS.Flow
import HandS.Style
import HandS.IsInst
import HandS.Deep
import HandS.Conv
import HandS.TupAny
import HandS.TupMul
import HandS.Zip
import HandS.CallSlots
import HandS.Wide
import HandS.SortInts
import HandS.WordsDict
import HandS.TupLen
import HandS.SetFor
import KE.KIndexOf
import KE.GoesMore
import HandS.Small
import KE.DataEq
import PySem.Challenge.RW_everyonegetsthere_k09_whole_turns_of_pla
set_option Elab.async false
set_option linter.all false
set_option maxRecDepth 100000
set_option maxHeartbeats 4000000
/-! I1: plain data D (values without addresses), how a heap bears it (Rep), how heaps grow (Post) -/
namespace Yv
open PySem L2

/-- of at most 62 bits; told so that nothing is unrolled -/
def in62 (i : Int) : Bool := Nat.ble i.natAbs 4611686018427387903
theorem in62_iff {i : Int} (h : in62 i = true) : -(2 ^ 62) ≤ i ∧ i < 2 ^ 62 := by
  unfold in62 at h
  have := Nat.le_of_ble_eq_true h
  omega
theorem in62_lo {i : Int} (h : in62 i = true) : -(2 ^ 63) ≤ i := by have := in62_iff h; omega
theorem in62_hi {i : Int} (h : in62 i = true) : i < 2 ^ 63 := by have := in62_iff h; omega
theorem in62_of {i : Int} (h : -(2 ^ 62) < i) (g : i < 2 ^ 62) : in62 i = true := by
  unfold in62; exact Nat.ble_eq_true_of_le (by omega)
abbrev Ky := Sum Key (List Key)

/-- plain data; a list or dict with the flag true is held by one name alone and may be changed -/
inductive D where
  | non | bl (b : Bool) | int (i : Int) | str (x : Str)
  | tup (xs : List D) | lst (o : Bool) (xs : List D) | dct (o : Bool) (kvs : List (Ky × D))
  /-- a tuple that only stands there: a pair of enumerate, zip; a dict's key -/
  | ptu (xs : List D)
  /-- the script; a built-in class -/
  | scr (ns : List Int) | ty (n : String)

/-! ### pure: nothing in it may be changed -/
mutual
def D.pure : D → Bool
  | .tup xs => D.pureL xs
  | .ptu xs => D.pureL xs
  | .lst o xs => !o && D.pureL xs
  | .dct o kvs => !o && D.pureK kvs
  | _ => true
def D.pureL : List D → Bool
  | [] => true
  | d :: ds => d.pure && D.pureL ds
def D.pureK : List (Ky × D) → Bool
  | [] => true
  | (_, d) :: ds => d.pure && D.pureK ds
end
mutual
def D.frz : D → D
  | .tup xs => .tup (D.frzL xs)
  | .ptu xs => .ptu (D.frzL xs)
  | .lst _ xs => .lst false (D.frzL xs)
  | .dct _ kvs => .dct false (D.frzK kvs)
  | d => d
def D.frzL : List D → List D
  | [] => []
  | d :: ds => d.frz :: D.frzL ds
def D.frzK : List (Ky × D) → List (Ky × D)
  | [] => []
  | (k, d) :: ds => (k, d.frz) :: D.frzK ds
end

theorem pureL_iff {ds : List D} : D.pureL ds = true ↔ ∀ d ∈ ds, d.pure = true := by
  induction ds with
  | nil => simp [D.pureL]
  | cons d ds ih => simp [D.pureL, ih]
theorem pureL_get {ds : List D} (h : D.pureL ds = true) {i : Nat} {d : D} (e : ds[i]? = some d) : d.pure = true := pureL_iff.mp h d (List.mem_of_getElem? e)
theorem pureL_append {ds es : List D} : D.pureL (ds ++ es) = (D.pureL ds && D.pureL es) := by
  induction ds with
  | nil => simp [D.pureL]
  | cons d ds ih => simp [D.pureL, ih, Bool.and_assoc]
theorem pureK_iff {ds : List (Ky × D)} : D.pureK ds = true ↔ ∀ d ∈ ds, d.2.pure = true := by
  induction ds with
  | nil => simp [D.pureK]
  | cons d ds ih => obtain ⟨k, d⟩ := d; simp [D.pureK, ih]

mutual
theorem frz_of_pure : ∀ {d : D}, d.pure = true → d.frz = d
  | .non, _ => rfl
  | .bl _, _ => rfl
  | .int _, _ => rfl
  | .str _, _ => rfl
  | .scr _, _ => rfl
  | .ty _, _ => rfl
  | .tup xs, h => by simp only [D.pure] at h; simp only [D.frz]; rw [frzL_of_pure h]
  | .ptu xs, h => by simp only [D.pure] at h; simp only [D.frz]; rw [frzL_of_pure h]
  | .lst o xs, h => by
    simp only [D.pure, Bool.and_eq_true, Bool.not_eq_true'] at h
    simp only [D.frz]; rw [frzL_of_pure h.2, h.1]
  | .dct o xs, h => by
    simp only [D.pure, Bool.and_eq_true, Bool.not_eq_true'] at h
    simp only [D.frz]; rw [frzK_of_pure h.2, h.1]
theorem frzL_of_pure : ∀ {ds : List D}, D.pureL ds = true → D.frzL ds = ds
  | [], _ => rfl
  | d :: ds, h => by
    simp only [D.pureL, Bool.and_eq_true] at h
    simp only [D.frzL]; rw [frz_of_pure h.1, frzL_of_pure h.2]
theorem frzK_of_pure : ∀ {ds : List (Ky × D)}, D.pureK ds = true → D.frzK ds = ds
  | [], _ => rfl
  | (k, d) :: ds, h => by
    simp only [D.pureK, Bool.and_eq_true] at h
    simp only [D.frzK]; rw [frz_of_pure h.1, frzK_of_pure h.2]
end
mutual
theorem frz_pure : ∀ (d : D), d.frz.pure = true
  | .non => rfl
  | .bl _ => rfl
  | .int _ => rfl
  | .str _ => rfl
  | .scr _ => rfl
  | .ty _ => rfl
  | .tup xs => by simp only [D.frz, D.pure]; exact frzL_pure xs
  | .ptu xs => by simp only [D.frz, D.pure]; exact frzL_pure xs
  | .lst o xs => by simp only [D.frz, D.pure]; simpa using frzL_pure xs
  | .dct o xs => by simp only [D.frz, D.pure]; simpa using frzK_pure xs
theorem frzL_pure : ∀ (ds : List D), D.pureL (D.frzL ds) = true
  | [] => rfl
  | d :: ds => by simp only [D.frzL, D.pureL]; rw [frz_pure d, frzL_pure ds]; rfl
theorem frzK_pure : ∀ (ds : List (Ky × D)), D.pureK (D.frzK ds) = true
  | [] => rfl
  | (k, d) :: ds => by simp only [D.frzK, D.pureK]; rw [frz_pure d, frzK_pure ds]; rfl
end

/-! ### how a heap bears data -/
abbrev Zp := Addr → Prop
def KLst (K : PySem.W.Frag) (a : Addr) (xs : List V) : Prop :=
  ∃ (o : Obj) (its : Array Value) (n : Nat), K.lookup a = some o ∧ o.cls = .type "list" ∧ o.dict = none ∧ o.data = .seq its n ∧ its.size ≤ sizeLine ∧ Vals xs its.toList
def KTp (K : PySem.W.Frag) (a : Addr) (xs : List V) : Prop :=
  ∃ (o : Obj) (its : Array Value) (n : Nat), K.lookup a = some o ∧ o.cls = .type "tuple" ∧ o.dict = none ∧ o.data = .seq its n ∧ its.size ≤ sizeLine ∧ Vals xs its.toList
/-- a tuple whose object is known to have no names of its own -/
def TupAt (K : PySem.W.Frag) (Z : Zp) (H : Hp) (a : Addr) (xs : List V) : Prop := (Z a ∧ ∃ ob : Obj, ob.dict = none ∧ H a = some (.frz ob (.tup xs))) ∨ KTp K a xs
def LstAt (K : PySem.W.Frag) (Z : Zp) (H : Hp) (a : Addr) (xs : List V) : Prop := (Z a ∧ Rd H a (.lst xs)) ∨ KLst K a xs
/-- the abstract dict that has these keys, these values -/
def DctHO (kvs : List (Ky × V)) (o : HO) : Prop :=
  (∃ ks : List (Key × V), o = .dK ks ∧ kvs = ks.map fun p => (.inl p.1, p.2)) ∨ (∃ ks : List (List Key × V), o = .dT ks ∧ ks ≠ [] ∧ kvs = ks.map fun p => (.inr p.1, p.2))

mutual
def Rep (K : PySem.W.Frag) (Z : Zp) (H : Hp) : D → V → List Addr → Prop
  | .non, v, O => v = .non ∧ O = []
  | .bl b, v, O => v = .bl b ∧ O = []
  | .int i, v, O => v = .int i ∧ O = []
  | .str x, v, O => v = .str x ∧ O = []
  | .scr ns, v, O => (∃ a, v = .ref a ∧ LstAt K Z H a (ns.map V.int)) ∧ O = []
  | .ty n, v, O => v = .ty n ∧ O = []
  | .tup ds, v, O => ∃ a vs, v = .ref a ∧ TupAt K Z H a vs ∧ RepL K Z H ds vs O
  | .ptu ds, v, O => ∃ a vs, v = .ref a ∧ (Z a ∧ H a = some (.tup vs)) ∧ RepL K Z H ds vs O
  | .lst false ds, v, O => ∃ a vs, v = .ref a ∧ (Z a ∧ H a = some (.lst vs)) ∧ RepL K Z H ds vs O
  | .lst true ds, v, O => ∃ a vs O', v = .ref a ∧ H a = some (.lst vs) ∧ O = a :: O' ∧ RepL K Z H ds vs O'
  | .dct false ds, v, O => ∃ a u vs, v = .ref a ∧ Z a ∧ H a = some u ∧ DctHO vs u ∧ RepK K Z H ds vs O
  | .dct true ds, v, O => ∃ a u vs O', v = .ref a ∧ H a = some u ∧ DctHO vs u ∧ O = a :: O' ∧ RepK K Z H ds vs O'
def RepL (K : PySem.W.Frag) (Z : Zp) (H : Hp) : List D → List V → List Addr → Prop
  | [], vs, O => vs = [] ∧ O = []
  | d :: ds, vs, O => ∃ v ws O1 O2, vs = v :: ws ∧ O = O1 ++ O2 ∧ Rep K Z H d v O1 ∧ RepL K Z H ds ws O2
def RepK (K : PySem.W.Frag) (Z : Zp) (H : Hp) : List (Ky × D) → List (Ky × V) → List Addr → Prop
  | [], vs, O => vs = [] ∧ O = []
  | (k, d) :: ds, vs, O => ∃ v ws O1 O2, vs = (k, v) :: ws ∧ O = O1 ++ O2 ∧ Rep K Z H d v O1 ∧ RepK K Z H ds ws O2
end

section
variable {K : PySem.W.Frag} {Z Z' : Zp} {H H' : Hp}
theorem TupAt.sq {a : Addr} {xs : List V} (h : TupAt K Z H a xs) : SqT K H a xs := h.elim (fun ⟨_, ob, _, e⟩ => .inl (.inr ⟨ob, e⟩)) fun ⟨o, its, n, e, c, _, d, z, r⟩ => .inr ⟨o, its, n, e, c, d, z, r⟩
theorem LstAt.sq {a : Addr} {xs : List V} (h : LstAt K Z H a xs) : SqL K H a xs := h.elim (fun z => .inl z.2) .inr
/-- what is frozen stays -/
structure Zx (Z : Zp) (H : Hp) (Z' : Zp) (H' : Hp) : Prop where
  zm : ∀ a, Z a → Z' a
  kp : ∀ a o, Z a → H a = some o → H' a = some o
theorem Zx.refl : Zx Z H Z H := ⟨fun _ h => h, fun _ _ _ h => h⟩
theorem Zx.rd {a : Addr} {u : HO} (x : Zx Z H Z' H') (z : Z a) (r : Rd H a u) : Rd H' a u := r.elim (fun e => .inl (x.kp _ _ z e)) fun ⟨o, e⟩ => .inr ⟨o, x.kp _ _ z e⟩
theorem TupAt.mono {a : Addr} {xs : List V} (x : Zx Z H Z' H') (h : TupAt K Z H a xs) : TupAt K Z' H' a xs := h.imp (fun ⟨z, ob, d, e⟩ => ⟨x.zm _ z, ob, d, x.kp _ _ z e⟩) id
theorem LstAt.mono {a : Addr} {xs : List V} (x : Zx Z H Z' H') (h : LstAt K Z H a xs) : LstAt K Z' H' a xs := h.elim (fun z => .inl ⟨x.zm _ z.1, x.rd z.1 z.2⟩) .inr
mutual
theorem Rep.mono (x : Zx Z H Z' H') : ∀ {d : D} {v : V} {O : List Addr}, (∀ a ∈ O, ∀ o, H a = some o → H' a = some o) → Rep K Z H d v O → Rep K Z' H' d v O
  | .non, _, _, _, h => h
  | .bl _, _, _, _, h => h
  | .int _, _, _, _, h => h
  | .str _, _, _, _, h => h
  | .scr _, _, _, _, ⟨⟨a, e, t⟩, eo⟩ => ⟨⟨a, e, t.mono x⟩, eo⟩
  | .ty _, _, _, _, h => h
  | .tup _, _, _, k, ⟨a, vs, e, t, r⟩ => ⟨a, vs, e, t.mono x, RepL.mono x k r⟩
  | .ptu _, _, _, k, ⟨a, vs, e, t, r⟩ => ⟨a, vs, e, ⟨x.zm _ t.1, x.kp _ _ t.1 t.2⟩, RepL.mono x k r⟩
  | .lst false _, _, _, k, ⟨a, vs, e, t, r⟩ => ⟨a, vs, e, ⟨x.zm _ t.1, x.kp _ _ t.1 t.2⟩, RepL.mono x k r⟩
  | .lst true _, _, _, k, ⟨a, vs, O', e, t, eo, r⟩ => ⟨a, vs, O', e, k a (by rw [eo]; simp) _ t, eo, RepL.mono x (fun b hb => k b (by rw [eo]; simp [hb])) r⟩
  | .dct false _, _, _, k, ⟨a, u, vs, e, z, t, q, r⟩ => ⟨a, u, vs, e, x.zm _ z, x.kp _ _ z t, q, RepK.mono x k r⟩
  | .dct true _, _, _, k, ⟨a, u, vs, O', e, t, q, eo, r⟩ => ⟨a, u, vs, O', e, k a (by rw [eo]; simp) _ t, q, eo, RepK.mono x (fun b hb => k b (by rw [eo]; simp [hb])) r⟩
theorem RepL.mono (x : Zx Z H Z' H') : ∀ {ds : List D} {vs : List V} {O : List Addr}, (∀ a ∈ O, ∀ o, H a = some o → H' a = some o) → RepL K Z H ds vs O → RepL K Z' H' ds vs O
  | [], _, _, _, h => h
  | _ :: _, _, _, k, ⟨v, ws, O1, O2, e1, e2, r1, r2⟩ => ⟨v, ws, O1, O2, e1, e2, Rep.mono x (fun a ha => k a (by rw [e2]; simp [ha])) r1, RepL.mono x (fun a ha => k a (by rw [e2]; simp [ha])) r2⟩
theorem RepK.mono (x : Zx Z H Z' H') : ∀ {ds : List (Ky × D)} {vs : List (Ky × V)} {O : List Addr}, (∀ a ∈ O, ∀ o, H a = some o → H' a = some o) → RepK K Z H ds vs O → RepK K Z' H' ds vs O
  | [], _, _, _, h => h
  | (_, _) :: _, _, _, k, ⟨v, ws, O1, O2, e1, e2, r1, r2⟩ => ⟨v, ws, O1, O2, e1, e2, Rep.mono x (fun a ha => k a (by rw [e2]; simp [ha])) r1, RepK.mono x (fun a ha => k a (by rw [e2]; simp [ha])) r2⟩
end
/- pure data hold no address of their own -/
mutual
theorem Rep.pure : ∀ {d : D} {v : V} {O : List Addr}, d.pure = true → Rep K Z H d v O → O = []
  | .non, _, _, _, h => h.2
  | .bl _, _, _, _, h => h.2
  | .int _, _, _, _, h => h.2
  | .str _, _, _, _, h => h.2
  | .scr _, _, _, _, h => h.2
  | .ty _, _, _, _, h => h.2
  | .tup _, _, _, p, ⟨_, _, _, _, r⟩ => RepL.pure (by simpa [D.pure] using p) r
  | .ptu _, _, _, p, ⟨_, _, _, _, r⟩ => RepL.pure (by simpa [D.pure] using p) r
  | .lst false _, _, _, p, ⟨_, _, _, _, r⟩ => RepL.pure (by simpa [D.pure] using p) r
  | .lst true _, _, _, p, _ => by simp [D.pure] at p
  | .dct false _, _, _, p, ⟨_, _, _, _, _, _, _, r⟩ => RepK.pure (by simpa [D.pure] using p) r
  | .dct true _, _, _, p, _ => by simp [D.pure] at p
theorem RepL.pure : ∀ {ds : List D} {vs : List V} {O : List Addr}, D.pureL ds = true → RepL K Z H ds vs O → O = []
  | [], _, _, _, h => h.2
  | _ :: _, _, _, p, ⟨_, _, _, _, _, e2, r1, r2⟩ => by
    simp only [D.pureL, Bool.and_eq_true] at p
    rw [e2, Rep.pure p.1 r1, RepL.pure p.2 r2]; rfl
theorem RepK.pure : ∀ {ds : List (Ky × D)} {vs : List (Ky × V)} {O : List Addr}, D.pureK ds = true → RepK K Z H ds vs O → O = []
  | [], _, _, _, h => h.2
  | (_, _) :: _, _, _, p, ⟨_, _, _, _, _, e2, r1, r2⟩ => by
    simp only [D.pureK, Bool.and_eq_true] at p
    rw [e2, Rep.pure p.1 r1, RepK.pure p.2 r2]; rfl
end
/- own addresses are tracked -/
mutual
theorem Rep.trk : ∀ {d : D} {v : V} {O : List Addr}, Rep K Z H d v O → ∀ a ∈ O, ∃ o, H a = some o
  | .non, _, _, h, a, m => by rw [h.2] at m; cases m
  | .bl _, _, _, h, a, m => by rw [h.2] at m; cases m
  | .int _, _, _, h, a, m => by rw [h.2] at m; cases m
  | .str _, _, _, h, a, m => by rw [h.2] at m; cases m
  | .scr _, _, _, h, a, m => by rw [h.2] at m; cases m
  | .ty _, _, _, h, a, m => by rw [h.2] at m; cases m
  | .tup _, _, _, ⟨_, _, _, _, r⟩, a, m => RepL.trk r a m
  | .ptu _, _, _, ⟨_, _, _, _, r⟩, a, m => RepL.trk r a m
  | .lst false _, _, _, ⟨_, _, _, _, r⟩, a, m => RepL.trk r a m
  | .lst true _, _, _, ⟨b, _, O', _, t, eo, r⟩, a, m => by
    rw [eo] at m
    rcases List.mem_cons.mp m with e | m
    · rw [e]; exact ⟨_, t⟩
    · exact RepL.trk r a m
  | .dct false _, _, _, ⟨_, _, _, _, _, _, _, r⟩, a, m => RepK.trk r a m
  | .dct true _, _, _, ⟨b, _, _, O', _, t, _, eo, r⟩, a, m => by
    rw [eo] at m
    rcases List.mem_cons.mp m with e | m
    · rw [e]; exact ⟨_, t⟩
    · exact RepK.trk r a m
theorem RepL.trk : ∀ {ds : List D} {vs : List V} {O : List Addr}, RepL K Z H ds vs O → ∀ a ∈ O, ∃ o, H a = some o
  | [], _, _, h, a, m => by rw [h.2] at m; cases m
  | _ :: _, _, _, ⟨_, _, _, _, _, e2, r1, r2⟩, a, m => by
    rw [e2] at m
    rcases List.mem_append.mp m with m | m
    · exact Rep.trk r1 a m
    · exact RepL.trk r2 a m
theorem RepK.trk : ∀ {ds : List (Ky × D)} {vs : List (Ky × V)} {O : List Addr}, RepK K Z H ds vs O → ∀ a ∈ O, ∃ o, H a = some o
  | [], _, _, h, a, m => by rw [h.2] at m; cases m
  | (_, _) :: _, _, _, ⟨_, _, _, _, _, e2, r1, r2⟩, a, m => by
    rw [e2] at m
    rcases List.mem_append.mp m with m | m
    · exact Rep.trk r1 a m
    · exact RepK.trk r2 a m
end
/- freezing -/
mutual
theorem Rep.frz (zm : ∀ a, Z a → Z' a) : ∀ {d : D} {v : V} {O : List Addr}, (∀ a ∈ O, Z' a) → Rep K Z H d v O → Rep K Z' H d.frz v []
  | .non, _, _, _, h => ⟨h.1, rfl⟩
  | .bl _, _, _, _, h => ⟨h.1, rfl⟩
  | .int _, _, _, _, h => ⟨h.1, rfl⟩
  | .str _, _, _, _, h => ⟨h.1, rfl⟩
  | .scr _, _, _, _, ⟨⟨a, e, t⟩, _⟩ => ⟨⟨a, e, t.mono ⟨zm, fun _ _ _ h => h⟩⟩, rfl⟩
  | .ty _, _, _, _, h => ⟨h.1, rfl⟩
  | .tup _, _, _, k, ⟨a, vs, e, t, r⟩ => ⟨a, vs, e, t.mono ⟨zm, fun _ _ _ h => h⟩, RepL.frz zm k r⟩
  | .ptu _, _, _, k, ⟨a, vs, e, t, r⟩ => ⟨a, vs, e, ⟨zm _ t.1, t.2⟩, RepL.frz zm k r⟩
  | .lst false _, _, _, k, ⟨a, vs, e, t, r⟩ => ⟨a, vs, e, ⟨zm _ t.1, t.2⟩, RepL.frz zm k r⟩
  | .lst true _, _, _, k, ⟨a, vs, O', e, t, eo, r⟩ => ⟨a, vs, e, ⟨k a (by rw [eo]; simp), t⟩, RepL.frz zm (fun b hb => k b (by rw [eo]; simp [hb])) r⟩
  | .dct false _, _, _, k, ⟨a, u, vs, e, z, t, q, r⟩ => ⟨a, u, vs, e, zm _ z, t, q, RepK.frz zm k r⟩
  | .dct true _, _, _, k, ⟨a, u, vs, O', e, t, q, eo, r⟩ => ⟨a, u, vs, e, k a (by rw [eo]; simp), t, q, RepK.frz zm (fun b hb => k b (by rw [eo]; simp [hb])) r⟩
theorem RepL.frz (zm : ∀ a, Z a → Z' a) : ∀ {ds : List D} {vs : List V} {O : List Addr}, (∀ a ∈ O, Z' a) → RepL K Z H ds vs O → RepL K Z' H (D.frzL ds) vs []
  | [], _, _, _, h => ⟨h.1, rfl⟩
  | _ :: _, _, _, k, ⟨v, ws, O1, O2, e1, e2, r1, r2⟩ => ⟨v, ws, [], [], e1, rfl, Rep.frz zm (fun a ha => k a (by rw [e2]; simp [ha])) r1, RepL.frz zm (fun a ha => k a (by rw [e2]; simp [ha])) r2⟩
theorem RepK.frz (zm : ∀ a, Z a → Z' a) : ∀ {ds : List (Ky × D)} {vs : List (Ky × V)} {O : List Addr}, (∀ a ∈ O, Z' a) → RepK K Z H ds vs O → RepK K Z' H (D.frzK ds) vs []
  | [], _, _, _, h => ⟨h.1, rfl⟩
  | (_, _) :: _, _, _, k, ⟨v, ws, O1, O2, e1, e2, r1, r2⟩ => ⟨v, ws, [], [], e1, rfl, Rep.frz zm (fun a ha => k a (by rw [e2]; simp [ha])) r1, RepK.frz zm (fun a ha => k a (by rw [e2]; simp [ha])) r2⟩
end

/-! ### lists of data -/
theorem RepL.length : ∀ {ds : List D} {vs : List V} {O : List Addr}, RepL K Z H ds vs O → ds.length = vs.length
  | [], _, _, h => by rw [h.1]; rfl
  | _ :: _, _, _, ⟨_, _, _, _, e1, _, _, r2⟩ => by rw [e1, List.length_cons, List.length_cons, RepL.length r2]
theorem RepL.append : ∀ {ds es : List D} {vs ws : List V} {O1 O2 : List Addr}, RepL K Z H ds vs O1 → RepL K Z H es ws O2 → RepL K Z H (ds ++ es) (vs ++ ws) (O1 ++ O2)
  | [], _, _, _, _, _, h, q => by rw [h.1, h.2]; exact q
  | _ :: _, _, _, _, _, _, ⟨v, us, P1, P2, e1, e2, r1, r2⟩, q => ⟨v, us ++ _, P1, P2 ++ _, by rw [e1]; rfl, by rw [e2, List.append_assoc], r1, RepL.append r2 q⟩
theorem RepL.get : ∀ {ds : List D} {vs : List V} {O : List Addr}, RepL K Z H ds vs O → ∀ {i : Nat} {d : D}, ds[i]? = some d → ∃ v P, vs[i]? = some v ∧ Rep K Z H d v P ∧ ∀ a ∈ P, a ∈ O
  | _ :: _, _, _, ⟨v, us, P1, P2, e1, e2, r1, r2⟩, 0, d, e => by
    cases e
    exact ⟨v, P1, by rw [e1]; rfl, r1, fun a m => by rw [e2]; simp [m]⟩
  | _ :: _, _, _, ⟨v, us, P1, P2, e1, e2, r1, r2⟩, i + 1, d, e => by
    obtain ⟨w, P, h1, h2, h3⟩ := RepL.get r2 (i := i) (d := d) (by simpa using e)
    exact ⟨w, P, by rw [e1]; simpa using h1, h2, fun a m => by rw [e2]; simp [h3 a m]⟩
theorem RepL.getV {ds : List D} {vs : List V} {O : List Addr} (h : RepL K Z H ds vs O) {i : Nat} {v : V} (e : vs[i]? = some v) : ∃ d P, ds[i]? = some d ∧ Rep K Z H d v P ∧ ∀ a ∈ P, a ∈ O := by
  have hi : i < ds.length := by rw [h.length]; exact (List.getElem?_eq_some_iff.mp e).1
  obtain ⟨w, P, h1, h2, h3⟩ := h.get (i := i) (d := ds[i]) (by simp [hi])
  rw [e] at h1; cases h1
  exact ⟨ds[i], P, by simp [hi], h2, h3⟩
theorem RepL.take : ∀ {ds : List D} {vs : List V} {O : List Addr} (n : Nat), D.pureL ds = true → RepL K Z H ds vs O → RepL K Z H (ds.take n) (vs.take n) []
  | _, _, _, 0, _, _ => ⟨rfl, rfl⟩
  | [], _, _, n + 1, _, h => by rw [h.1]; exact ⟨rfl, rfl⟩
  | _ :: _, _, _, n + 1, p, ⟨v, us, P1, P2, e1, e2, r1, r2⟩ => by
    simp only [D.pureL, Bool.and_eq_true] at p
    rw [e1]
    exact ⟨v, us.take n, [], [], rfl, rfl, by rw [← Rep.pure p.1 r1]; exact r1, RepL.take n p.2 r2⟩
theorem RepL.drop : ∀ {ds : List D} {vs : List V} {O : List Addr} (n : Nat), D.pureL ds = true → RepL K Z H ds vs O → RepL K Z H (ds.drop n) (vs.drop n) []
  | ds, vs, _, 0, p, h => by rw [← RepL.pure p h]; simpa using h
  | [], _, _, n + 1, _, h => by rw [h.1]; exact ⟨rfl, rfl⟩
  | _ :: _, _, _, n + 1, p, ⟨v, us, P1, P2, e1, e2, r1, r2⟩ => by
    simp only [D.pureL, Bool.and_eq_true] at p
    rw [e1]
    exact RepL.drop n p.2 r2
theorem RepL.pureO {ds : List D} {vs : List V} {O : List Addr} (p : D.pureL ds = true) (h : RepL K Z H ds vs O) : RepL K Z H ds vs [] := by
  rw [← RepL.pure p h]; exact h
theorem Rep.pureO {d : D} {v : V} {O : List Addr} (p : d.pure = true) (h : Rep K Z H d v O) : Rep K Z H d v [] := by
  rw [← Rep.pure p h]; exact h
/-- pure lists, item by item -/
theorem RepL.of_get : ∀ {ds : List D} {vs : List V}, ds.length = vs.length → (∀ (i : Nat) (d : D) (v : V), ds[i]? = some d → vs[i]? = some v → Rep K Z H d v []) → RepL K Z H ds vs []
  | [], [], _, _ => ⟨rfl, rfl⟩
  | [], _ :: _, h, _ => by cases h
  | _ :: _, [], h, _ => by cases h
  | d :: ds, v :: vs, h, k => ⟨v, vs, [], [], rfl, rfl, k 0 d v rfl rfl, RepL.of_get (by simpa using h) fun i d' v' e1 e2 => k (i + 1) d' v' (by simpa using e1) (by simpa using e2)⟩
theorem RepL.item {ds : List D} {vs : List V} {O : List Addr} (p : D.pureL ds = true) (h : RepL K Z H ds vs O) {i : Nat} {d : D} {v : V} (e1 : ds[i]? = some d) (e2 : vs[i]? = some v) : Rep K Z H d v [] := by
  obtain ⟨w, P, h1, h2, h3⟩ := h.get e1
  rw [e2] at h1; cases h1
  exact h2.pureO (pureL_get p e1)
theorem RepL.set {ds : List D} {vs : List V} {O : List Addr} (p : D.pureL ds = true) (h : RepL K Z H ds vs O) (i : Nat) {d : D} {v : V} (r : Rep K Z H d v []) : RepL K Z H (ds.set i d) (vs.set i v) [] := by
  refine RepL.of_get (by rw [List.length_set, List.length_set, h.length]) fun j d' v' e1 e2 => ?_
  by_cases hj : i = j
  · subst hj
    have hi : i < ds.length := by have := (List.getElem?_eq_some_iff.mp e1).1; simpa using this
    have hi' : i < vs.length := by rw [← h.length]; exact hi
    rw [List.getElem?_set_self hi] at e1; rw [List.getElem?_set_self hi'] at e2
    cases e1; cases e2; exact r
  · rw [List.getElem?_set_ne hj] at e1; rw [List.getElem?_set_ne hj] at e2
    exact h.item p e1 e2
theorem RepL.reverse {ds : List D} {vs : List V} {O : List Addr} (p : D.pureL ds = true) (h : RepL K Z H ds vs O) : RepL K Z H ds.reverse vs.reverse [] := by
  refine RepL.of_get (by rw [List.length_reverse, List.length_reverse, h.length]) fun j d' v' e1 e2 => ?_
  have hj : j < ds.length := by have := (List.getElem?_eq_some_iff.mp e1).1; simpa using this
  rw [List.getElem?_reverse hj] at e1; rw [List.getElem?_reverse (by rw [← h.length]; exact hj), ← h.length] at e2
  exact h.item p e1 e2
theorem RepL.eraseIdx {ds : List D} {vs : List V} {O : List Addr} (p : D.pureL ds = true) (h : RepL K Z H ds vs O) (i : Nat) : RepL K Z H (ds.eraseIdx i) (vs.eraseIdx i) [] := by
  rw [List.eraseIdx_eq_take_drop_succ, List.eraseIdx_eq_take_drop_succ]
  exact (h.take i p).append (h.drop (i + 1) p)
/-- data of ints, texts, truth values: the values are known -/
theorem RepL.ints : ∀ {ns : List Int} {vs : List V} {O : List Addr}, RepL K Z H (ns.map D.int) vs O → vs = ns.map V.int
  | [], _, _, h => h.1
  | n :: ns, _, _, ⟨v, us, P1, P2, e1, e2, r1, r2⟩ => by rw [e1, RepL.ints r2, r1.1]; rfl
theorem RepL.of_ints : ∀ (ns : List Int), RepL K Z H (ns.map D.int) (ns.map V.int) []
  | [] => ⟨rfl, rfl⟩
  | n :: ns => ⟨.int n, ns.map V.int, [], [], rfl, rfl, ⟨rfl, rfl⟩, RepL.of_ints ns⟩
theorem RepL.bls : ∀ {ns : List Bool} {vs : List V} {O : List Addr}, RepL K Z H (ns.map D.bl) vs O → vs = ns.map V.bl
  | [], _, _, h => h.1
  | n :: ns, _, _, ⟨v, us, P1, P2, e1, e2, r1, r2⟩ => by rw [e1, RepL.bls r2, r1.1]; rfl
theorem RepL.strs : ∀ {ns : List Str} {vs : List V} {O : List Addr}, RepL K Z H (ns.map D.str) vs O → vs = ns.map V.str
  | [], _, _, h => h.1
  | n :: ns, _, _, ⟨v, us, P1, P2, e1, e2, r1, r2⟩ => by rw [e1, RepL.strs r2, r1.1]; rfl
theorem RepL.of_strs : ∀ (ns : List Str), RepL K Z H (ns.map D.str) (ns.map V.str) []
  | [] => ⟨rfl, rfl⟩
  | n :: ns => ⟨.str n, ns.map V.str, [], [], rfl, rfl, ⟨rfl, rfl⟩, RepL.of_strs ns⟩
end
theorem pureL_ints (ns : List Int) : D.pureL (ns.map D.int) = true := pureL_iff.mpr fun d m => by obtain ⟨n, _, rfl⟩ := List.mem_map.mp m; rfl
theorem pureL_strs (ns : List Str) : D.pureL (ns.map D.str) = true := pureL_iff.mpr fun d m => by obtain ⟨n, _, rfl⟩ := List.mem_map.mp m; rfl
theorem pureL_bls (ns : List Bool) : D.pureL (ns.map D.bl) = true := pureL_iff.mpr fun d m => by obtain ⟨n, _, rfl⟩ := List.mem_map.mp m; rfl
theorem pureL_take {ds : List D} (n : Nat) (h : D.pureL ds = true) : D.pureL (ds.take n) = true := pureL_iff.mpr fun d m => pureL_iff.mp h d (List.mem_of_mem_take m)
theorem pureL_drop {ds : List D} (n : Nat) (h : D.pureL ds = true) : D.pureL (ds.drop n) = true := pureL_iff.mpr fun d m => pureL_iff.mp h d (List.mem_of_mem_drop m)
theorem pureL_reverse {ds : List D} (h : D.pureL ds = true) : D.pureL ds.reverse = true := pureL_iff.mpr fun d m => pureL_iff.mp h d (List.mem_reverse.mp m)
theorem pureL_set {ds : List D} {d : D} (i : Nat) (h : D.pureL ds = true) (hd : d.pure = true) : D.pureL (ds.set i d) = true := pureL_iff.mpr fun e m => by
  rcases List.mem_or_eq_of_mem_set m with m | rfl
  · exact pureL_iff.mp h e m
  · exact hd
theorem pureL_eraseIdx {ds : List D} (i : Nat) (h : D.pureL ds = true) : D.pureL (ds.eraseIdx i) = true := pureL_iff.mpr fun d m => pureL_iff.mp h d (List.mem_of_mem_eraseIdx m)

/-! ### how heaps grow: P are the addresses that may be changed -/
structure Post (Z : Zp) (H : Hp) (P : Zp) (Z' : Zp) (H' : Hp) (P' : Zp) : Prop where
  zm : ∀ a, Z a → Z' a
  zn : ∀ a, Z' a → Z a ∨ P a ∨ H a = none
  on : ∀ a, P' a → P a ∨ H a = none
  kp : ∀ a o, H a = some o → ¬ P a → H' a = some o
section
variable {Z Z1 Z2 P P1 P2 : Zp} {H H1 H2 : Hp}
theorem Post.refl : Post Z H P Z H P := ⟨fun _ h => h, fun _ h => .inl h, fun _ h => .inl h, fun _ _ h _ => h⟩
theorem Post.none_of (p : Post Z H P Z1 H1 P1) {a : Addr} (h : H1 a = none) : P a ∨ H a = none := by
  cases q : H a with
  | none => exact .inr rfl
  | some o =>
    by_cases hp : P a
    · exact .inl hp
    · rw [p.kp a o q hp] at h; cases h
theorem Post.trans (p : Post Z H P Z1 H1 P1) (q : Post Z1 H1 P1 Z2 H2 P2) : Post Z H P Z2 H2 P2 where
  zm := fun a h => q.zm a (p.zm a h)
  zn := fun a h => by
    rcases q.zn a h with h | h | h
    · exact p.zn a h
    · exact .inr (p.on a h)
    · exact .inr (p.none_of h)
  on := fun a h => by
    rcases q.on a h with h | h
    · exact p.on a h
    · exact p.none_of h
  kp := fun a o h hn => q.kp a o (p.kp a o h hn) fun z => by
    rcases p.on a z with z | z
    · exact hn z
    · rw [h] at z; cases z
theorem Post.zx (p : Post Z H P Z1 H1 P1) (hz : ∀ a, Z a → ¬ P a) : Zx Z H Z1 H1 := ⟨p.zm, fun a o z e => p.kp a o e (hz a z)⟩
theorem Post.mono {P' P1' : Zp} (p : Post Z H P Z1 H1 P1) (h : ∀ a, P a → P' a) (h1 : ∀ a, P1' a → P1 a ∨ P' a) : Post Z H P' Z1 H1 P1' :=
  ⟨p.zm, fun a z => (p.zn a z).elim .inl fun z => z.elim (fun z => .inr (.inl (h a z))) fun z => .inr (.inr z),
   fun a z => (h1 a z).elim (fun z => (p.on a z).elim (fun z => .inl (h a z)) .inr) .inl, fun a o e n => p.kp a o e fun z => n (h a z)⟩
end
/-- a new object: what may not be changed behind is frozen or own -/
theorem post_new {Z P : Zp} {H : Hp} {p : Addr} {o : HO} (hp : H p = none) : Post Z H P (fun a => Z a ∨ a = p) (upd H p o) P :=
  ⟨fun _ h => .inl h, fun a h => h.elim .inl fun e => .inr (.inr (by rw [e]; exact hp)), fun _ h => .inl h, fun a u h _ => by rw [upd_ne (ne_of_none h hp)]; exact h⟩
theorem post_own {Z P : Zp} {H : Hp} {p : Addr} {o : HO} (hp : H p = none) : Post Z H P Z (upd H p o) (fun a => P a ∨ a = p) :=
  ⟨fun _ h => h, fun a h => .inl h, fun a h => h.elim .inl fun e => .inr (by rw [e]; exact hp), fun a u h _ => by rw [upd_ne (ne_of_none h hp)]; exact h⟩
/-- a new tuple with these items -/
def NewT (H : Hp) (xs : List V) (Q : VK) : Prop := ∀ (p : Addr) (ob : Obj), H p = none → ob.dict = none → Q (.ref p) (upd H p (.frz ob (.tup xs)))
section
variable {X : Cx} {pins : List (Addr × Obj)} {σ : St} {H : Hp} {s : Shared} {Q : VK}
theorem newT_at {xs : List V} {its : List Value} {h' : Heap} {ob : Obj} {t : Nat} (I : Inv X pins σ H s) (k : ∀ b o, s.heap.get? b = some o → h'.get? b = some o) {p : Addr} (hp : s.heap.objs.size ≤ p) (r : Vals xs its) (hz : xs.length ≤ sizeLine)
    (at_ : h'.get? p = some ob) (hc : ob.cls = .type "tuple") {n : Nat} (hd : ob.data = .seq its.toArray n) (nd : ob.dict = none) (q : NewT H xs Q) : EP X pins σ Q (.ref p) { s with heap := h', toks := t } := by
  refine ⟨.ref p, upd H p (.frz ob (.tup xs)), I.laid (t' := t) k hp ?_, rfl, q p ob (I.hok.fresh hp) nd⟩
  exact ⟨at_, hz, its, r, ob, at_, hc, n, hd⟩
end
end Yv

set_option Elab.async false
set_option linter.all false
set_option maxRecDepth 100000
set_option maxHeartbeats 4000000
/-! T1: the rules that make tuples, told with the new object known -/
namespace Yv
open PySem L2 PySem.Spec PyProof.Rows
section
variable {X : Cx}
/-- (a, b, ..) -/
def tTupY (t : TA) : TE := fun σ H Q => t σ H fun xs H1 => xs.length ≤ sizeLine ∧ NewT H1 xs Q
theorem pe_tupY {es : List Expr} {t : TA} {x1 : Nat} {pos : Pos} (h : PA X es t) : PE X (.Tuple es x1 pos) (tTupY t) := by
  constructor
  intro pins s σ H Q I go
  refine wpAny_Tuple_spliced (thn (h.run pos pins s σ H _ I go) fun us s1 ⟨xs, H1, I1, r, z, q⟩ => ?_)
  exact ⟨by rw [← r.length]; exact z, newT_at I1 (fun b u e => Heap.get?_push_of_some _ e) (Nat.le_refl _) r z (Heap.get?_push_size _ rfl) rfl rfl rfl q⟩
/-- tuple(x) -/
def rTupOf (K : PySem.W.Frag) : List V → Hp → VK → Prop := fun xs H Q => ∃ p ys, xs = [.ref p] ∧ ((SqL K H p ys ∧ NewT H ys Q) ∨ (SqT K H p ys ∧ Q (.ref p) H))
theorem call_tupOfY : CallR X (.type "tuple") (rTupOf X.K) := by
  intro pins s σ H xs us Q I r h
  obtain ⟨p, ys, rfl, h⟩ := h
  obtain ⟨u, rfl, rx⟩ := vals1 r
  cases rx
  rcases h with ⟨hs, q⟩ | ⟨hs, q⟩
  · obtain ⟨its, rv, pl, hz⟩ := I.list hs
    refine call_tuple_list pl.isList (fun h' hk => ?_) (by rw [List.size_toArray, ← rv.length]; exact hz)
    have I1 : Inv X pins σ H { s with heap := h' } := I.kept (t' := s.toks) hk
    exact newT_at (t := s.toks) I1 (fun b o e => Heap.get?_push_of_some _ e) (Nat.le_refl _) rv hz (Heap.get?_push_size _ rfl) rfl rfl rfl q
  · obtain ⟨its, rv, pl, hz⟩ := I.tuple hs
    exact call_tuple_tup pl ⟨.ref p, H, I, rfl, q⟩
/-- t + u -/
def rCatY (K : PySem.W.Frag) : R2 := fun x y H Q => ∃ a b xs ys, x = .ref a ∧ y = .ref b ∧ SqT K H a xs ∧ SqT K H b ys ∧ xs.length + ys.length ≤ sizeLine ∧
  (xs = [] → Q (.ref b) H) ∧ (xs ≠ [] → ys = [] → Q (.ref a) H) ∧ (xs ≠ [] → ys ≠ [] → NewT H (xs ++ ys) Q)
theorem op_catY : OpR X (binaryOp .Add) (rCatY X.K) := by
  intro pins s σ H x y v u Q I rx ry h
  obtain ⟨a, b, xs, ys, rfl, rfl, ha, hb, hz, q0, q1, q2⟩ := h
  by_cases hx : xs = []
  · exact op_catA pins s σ H _ _ v u Q I rx ry ⟨a, b, xs, ys, rfl, rfl, ha, hb, hz, q0, fun n => absurd hx n, fun n => absurd hx n⟩
  · cases rx
    cases ry
    obtain ⟨its, r1, p1, _⟩ := I.tuple ha
    obtain ⟨its2, r2, p2, _⟩ := I.tuple hb
    refine HT.cat_tup p1 p2 (fun z => hx (r1.nil_iff.mp z)) (fun z => ⟨.ref a, H, I, rfl, q1 hx (r2.nil_iff.mp z)⟩) (fun z => ?_) (by rw [← r1.length, ← r2.length]; exact hz)
    exact newT_at (t := s.toks) I (fun b ob q => Heap.get?_push_of_some _ q) (Nat.le_refl _) (r1.append r2) (by rw [List.length_append]; exact hz) (Heap.get?_push_size _ rfl) rfl rfl rfl (q2 hx fun w => z (r2.nil_iff.mpr w))
/-- t * n -/
def rRepY (K : PySem.W.Frag) : R2 := fun x y H Q => ∃ l k xs, x = .ref l ∧ y = .int k ∧ SqT K H l xs ∧ xs ≠ [] ∧ 2 ≤ k ∧ k ≤ 1000 ∧ xs.length ≤ 1000 ∧ NewT H (List.replicate k.toNat xs).flatten Q
theorem op_repY : OpR X (binaryOp .Mult) (rRepY X.K) := by
  intro pins s σ H x y v u Q I rx ry h
  obtain ⟨l, k, xs, rfl, rfl, hT, hne, h1, h2, hz, q⟩ := h
  cases rx
  obtain ⟨t, rfl⟩ := ry
  obtain ⟨its, r, ⟨⟨cls, dd, data, sl⟩, ho, hc, n, hd⟩, hs⟩ := I.tuple hT
  simp only at hc hd
  subst hc hd
  have le1 : its.length = xs.length := r.length.symm
  have ne0 : its.toArray.isEmpty = false := by
    cases its with
    | nil => exact absurd (List.eq_nil_of_length_eq_zero le1.symm) hne
    | cons a b => rfl
  have sz0 : its.toArray.size = xs.length := by rw [List.size_toArray, le1]
  have m0 : k.toNat * xs.length ≤ 1000 * 1000 := Nat.mul_le_mul (by omega) hz
  have fl : (List.replicate k.toNat its).flatten.length ≤ sizeLine := by rw [PyProof.Rows.lm_len_rep_flat, le1, sizeLine_eq]; omega
  have fl2 : (List.replicate k.toNat xs).flatten.length ≤ sizeLine := by rw [PyProof.Rows.lm_len_rep_flat, sizeLine_eq]; omega
  have m1 : ((its.toArray.size : Nat) : Int) * k ≤ 1000000 := by
    rw [sz0]
    have : ((xs.length : Nat) : Int) * k ≤ 1000 * k := Int.mul_le_mul_of_nonneg_right (by omega) (by omega)
    omega
  have d0 : (decide (k < -(2 ^ 63)) || decide (k ≥ 2 ^ 63)) = false := by simp; omega
  have d1 : (its.toArray.isEmpty || k == 1) = false := by rw [ne0]; simp; omega
  have d2 : (decide (k ≤ 0) || its.toArray.isEmpty) = false := by rw [ne0]; simp; omega
  have d4 : Builtin.Tuple.tupleTooMany (((its.toArray.size : Nat) : Int) * k) = false := by
    unfold Builtin.Tuple.tupleTooMany
    rw [sizeLine_eq]
    simp only [decide_eq_false_iff_not]; omega
  have mm := tuple_mulW l its.toArray n dd sl k t d0 d1 d2 (by omega) d4 (by rw [size_rep, List.size_toArray]; exact fl)
  have rm := int_rmul_tuple k t l its.toArray n dd sl
  refine wpAny_binaryOp_repeat_ref (T := "tuple") (U := "int") (by decide) ⟨_, ho, rfl⟩ (fun s' => typeIs_int s' k t) noFill_tuple_mul F.fills_int_mul F.slot_int_rmul repeat_tuple F.slot_int_index.lookup ?_
  refine call_meets F.slot_int_rmul (typeIs_int s k t) F.entry_int_rmul (F.args_int_rmul_2 _ _) rm ⟨ho, rfl, ⟨_, ho, rfl⟩, ?_⟩
  refine call_meets F.slot_tuple_mul ⟨_, ho, rfl⟩ F.entry_tuple_mul (F.args_tuple_mul_2 _ _) mm ⟨ho, ?_⟩
  rw [size_rep]
  exact newT_at (t := s.toks) I (fun b ob q => Heap.get?_push_of_some _ q) (Nat.le_refl _) (r.rep k.toNat) fl2 (Heap.get?_push_size _ rfl) rfl rfl rfl q
/-- t[lo:hi] -/
def rSlY (K : PySem.W.Frag) : V → Option Int → Option Int → Hp → VK → Prop := fun x lo hi H Q => ∃ a xs, x = .ref a ∧ SqT K H a xs ∧
  (HT.sIx xs.length 0 lo = 0 ∧ HT.sIx xs.length xs.length hi = xs.length → Q (.ref a) H) ∧ (¬ (HT.sIx xs.length 0 lo = 0 ∧ HT.sIx xs.length xs.length hi = xs.length) → NewT H (cutV xs lo hi) Q)
theorem sl_tupY : SlR X (rSlY X.K) := by
  intro pins s σ H x v vl vu lo hi sl Q I rx hs pl pu h
  obtain ⟨a, xs, rfl, hx, q1, q2⟩ := h
  by_cases hw : HT.sIx xs.length 0 lo = 0 ∧ HT.sIx xs.length xs.length hi = xs.length
  · exact sl_tupA pins s σ H _ v vl vu lo hi sl Q I rx hs pl pu ⟨a, xs, rfl, hx, q1, fun n => absurd hw n⟩
  · cases rx
    obtain ⟨its, r, ht, hz⟩ := I.tuple hx
    have n1 : its.toArray.size = xs.length := by rw [List.size_toArray]; exact r.length.symm
    refine ⟨"tuple", _, PyProof.Rows.slot_tuple_getitem.lookup, ht.typeIs, HT.getItem_tuple_cut ht hs pl pu (by rw [n1]; exact hw) ?_ (by rw [n1]; exact hz)⟩
    rw [n1]
    have rc := (r.drop (HT.sIx xs.length 0 lo)).take (HT.sIx xs.length xs.length hi - HT.sIx xs.length 0 lo)
    exact newT_at (t := s.toks) I (fun b ob q => Heap.get?_push_of_some _ q) (Nat.le_refl _) rc (Nat.le_trans (cutV_length xs lo hi) hz) (Heap.get?_push_size _ rfl) rfl rfl rfl (q2 hw)
/-- tuple(range(..)) -/
def tTupRgY (te : L2.St → Hp → (Int → Int → Hp → Prop) → Prop) : TE := fun σ H Q => te σ H fun a b H1 => RgOk a b ∧ NewT H1 (rgV a b) Q
theorem pe_tupRgY {e : Expr} {te : L2.St → Hp → (Int → Int → Hp → Prop) → Prop} {p pos : Pos} (hc : X.calm = true) (hg : Gl X "tuple") (hm : X.mg "tuple" = none) (he : PRg X e te) (na : starEach [e] X.env = (false, eval e X.env) :: starEach [] X.env) :
    PE X (.Call (.Name "tuple" p) [e] [] pos) (tTupRgY te) := by
  constructor
  intro pins s σ H Q I h
  refine Call_ (ld_blt I hg hm boot_tuple (callWith_type1 (args_cons (thn (he pins s σ H _ I h) fun x s1 ⟨r, a, b, t, u, v, H1, ex, hr, I1, ok, q⟩ => args_nil ?_) na) na))
  subst ex
  obtain ⟨b1, b2, b3, b4, b5⟩ := ok
  refine call_tuple_range (n := (b - a).toNat) (I1.ok.hd hc) hr (small_one b1 b2 b3 b4) (rangeSize_nat a b) b5 fun h' tk acc hk hi => ?_
  have I2 : Inv X pins σ H1 { s1 with heap := h', toks := tk } := I1.kept hk
  exact newT_at (t := tk) (n := 0) I2 (fun c o e => Heap.get?_push_of_some _ e) (Nat.le_refl _) (vals_rg hi) (by rw [rgV_length, sizeLine_eq]; omega) (Heap.get?_push_size _ rfl) rfl (by simp) rfl q
end
end Yv

set_option Elab.async false
set_option linter.all false
set_option maxRecDepth 100000
set_option maxHeartbeats 4000000
/-! I2: environments, results, what a reading says of them -/
namespace Yv
open PySem L2

abbrev Env' := List (Option D)
/-- an exception: which class, its value -/
abbrev Xc := Nat × D
inductive R (α : Type) where
  | ok (a : α) (δ : Env')
  | exc (x : Xc) (δ : Env')
  | fail
abbrev Mn (α : Type) := Env' → R α
def R.bind {α β : Type} : R α → (α → Env' → R β) → R β
  | .ok a δ, f => f a δ
  | .exc x δ, _ => .exc x δ
  | .fail, _ => .fail
@[simp] theorem R.bind_ok {α β : Type} (a : α) (δ : Env') (f : α → Env' → R β) : (R.ok a δ).bind f = f a δ := rfl
@[simp] theorem R.bind_exc {α β : Type} (x : Xc) (δ : Env') (f : α → Env' → R β) : (R.exc x δ : R α).bind f = .exc x δ := rfl
@[simp] theorem R.bind_fail {α β : Type} (f : α → Env' → R β) : (R.fail : R α).bind f = .fail := rfl

abbrev Fp := Nat → List Addr
def Pf (F : Fp) : Zp := fun a => ∃ i, a ∈ F i

/-- the slots bear the data; F: the own addresses of each slot -/
structure ER (K : PySem.W.Frag) (Z : Zp) (H : Hp) (δ : Env') (σ : St) (F : Fp) : Prop where
  len : δ.length = σ.length
  rep : ∀ i d, δ[i]? = some (some d) → ∃ v, σ[i]? = some (some v) ∧ Rep K Z H d v (F i)
  emp : ∀ i, (∀ d, δ[i]? ≠ some (some d)) → F i = []
  nd : ∀ i, (F i).Nodup
  dj : ∀ i j a, a ∈ F i → a ∈ F j → i = j
  nz : ∀ i a, a ∈ F i → ¬ Z a
  zt : ∀ a, Z a → ∃ o, H a = some o
/-- own addresses of what no slot holds -/
structure Tmp (Z : Zp) (F : Fp) (O : List Addr) : Prop where
  nd : O.Nodup
  nz : ∀ a ∈ O, ¬ Z a
  dj : ∀ a ∈ O, ∀ i, a ∉ F i
section
variable {K : PySem.W.Frag} {Z Z' Z1 : Zp} {H H' H1 : Hp} {δ δ' : Env'} {σ : St} {F F' F1 : Fp}
theorem ER.trk (e : ER K Z H δ σ F) {i : Nat} {a : Addr} (m : a ∈ F i) : ∃ o, H a = some o := by
  by_cases h : ∃ d, δ[i]? = some (some d)
  · obtain ⟨d, h⟩ := h
    obtain ⟨v, _, r⟩ := e.rep i d h
    exact r.trk a m
  · rw [e.emp i fun d q => h ⟨d, q⟩] at m; cases m
theorem Tmp.nil : Tmp Z F [] := ⟨List.nodup_nil, (fun _ h => by cases h), (fun _ h => by cases h)⟩
theorem ER.zP (e : ER K Z H δ σ F) : ∀ a, Z a → ¬ Pf F a := fun a z ⟨i, m⟩ => e.nz i a m z
/-- the environment where other things were changed alone -/
theorem ER.keep (e : ER K Z H δ σ F) {P P' : Zp} (p : Post Z H P Z' H' P') (hP : ∀ a, P a → ¬ Pf F a ∧ ¬ Z a) (zt : ∀ a, Z' a → ∃ o, H' a = some o) : ER K Z' H' δ σ F where
  len := e.len
  rep := fun i d h => by
    obtain ⟨v, h1, r⟩ := e.rep i d h
    exact ⟨v, h1, r.mono ⟨p.zm, fun a o z q => p.kp a o q fun x => (hP a x).2 z⟩ fun a m o q => p.kp a o q fun x => (hP a x).1 ⟨i, m⟩⟩
  emp := e.emp
  nd := e.nd
  dj := e.dj
  nz := fun i a m z => by
    rcases p.zn a z with z | z | z
    · exact e.nz i a m z
    · exact (hP a z).1 ⟨i, m⟩
    · obtain ⟨o, q⟩ := e.trk m
      rw [q] at z; cases z
  zt := zt
/-- a value beside an environment that changes -/
theorem Tmp.keep {d : D} {v : V} {O : List Addr} (t : Tmp Z F O) (r : Rep K Z H d v O) (e : ER K Z H δ σ F) {F2 : Fp} (p : Post Z H (Pf F) Z' H' (Pf F2)) : Tmp Z' F2 O ∧ Rep K Z' H' d v O := by
  have tr := r.trk
  refine ⟨⟨t.nd, fun a m z => ?_, fun a m i mi => ?_⟩, r.mono (p.zx e.zP) fun a m o q => p.kp a o q fun ⟨i, x⟩ => t.dj a m i x⟩
  · rcases p.zn a z with z | ⟨i, z⟩ | z
    · exact t.nz a m z
    · exact t.dj a m i z
    · obtain ⟨o, q⟩ := tr a m
      rw [q] at z; cases z
  · rcases p.on a ⟨i, mi⟩ with ⟨j, z⟩ | z
    · exact t.dj a m j z
    · obtain ⟨o, q⟩ := tr a m
      rw [q] at z; cases z
end

/-! ### readings -/
/-- the wish of exceptions: an exception of the class at ca c, its value in its own dict -/
def XRep (K : PySem.W.Frag) (ca : Nat → Addr) (Z : Zp) (H : Hp) (x : Xc) (cls : Value) (dd : Option Addr) : Prop :=
  cls = .ref (ca x.1) ∧ ∃ a v, dd = some a ∧ Z a ∧ H a = some (.xd [("value", v)]) ∧ Rep K Z H x.2 v []
/-- what stands around: the written part, the addresses of the exception classes, the wish of exceptions -/
structure Wc where
  K : PySem.W.Frag
  ca : Nat → Addr
  W : WX
def xOut (w : Wc) (σ : St) (Z : Zp) (H : Hp) (F : Fp) (x : Xc) (δ' : Env') : Prop :=
  ∀ cls dd Z' H' F', ER w.K Z' H' δ' σ F' → XRep w.K w.ca Z' H' x cls dd → Post Z H (Pf F) Z' H' (Pf F') → w.W cls dd σ H'
/-- an expression: its value may be own -/
def tE (w : Wc) (m : Mn D) : TE := fun σ H Q => ∃ Z δ F, ER w.K Z H δ σ F ∧ match m δ with
  | .ok d δ' => ∀ v Z' H' F' O, ER w.K Z' H' δ' σ F' → Rep w.K Z' H' d v O → Tmp Z' F' O → Post Z H (Pf F) Z' H' (fun a => Pf F' a ∨ a ∈ O) → Q v H'
  | .exc x δ' => xOut w σ Z H F x δ'
  | .fail => False
def tT (w : Wc) (m : Mn Bool) : TT := fun σ H Q => ∃ Z δ F, ER w.K Z H δ σ F ∧ match m δ with
  | .ok b δ' => ∀ Z' H' F', ER w.K Z' H' δ' σ F' → Post Z H (Pf F) Z' H' (Pf F') → Q b H'
  | .exc x δ' => xOut w σ Z H F x δ'
  | .fail => False
/-- an operand: a name (looked at later) or a value of its own -/
inductive A where
  | nm (i : Nat)
  | dt (d : D)
def RepA (K : PySem.W.Frag) (Z : Zp) (H : Hp) (σ : St) : A → V → List Addr → Prop
  | .nm i, v, O => σ[i]? = some (some v) ∧ O = []
  | .dt d, v, O => Rep K Z H d v O
def tA (w : Wc) (m : Mn A) : TE := fun σ H Q => ∃ Z δ F, ER w.K Z H δ σ F ∧ match m δ with
  | .ok a δ' => ∀ v Z' H' F' O, ER w.K Z' H' δ' σ F' → RepA w.K Z' H' σ a v O → Tmp Z' F' O → Post Z H (Pf F) Z' H' (fun a => Pf F' a ∨ a ∈ O) → Q v H'
  | .exc x δ' => xOut w σ Z H F x δ'
  | .fail => False
def RepAs (K : PySem.W.Frag) (Z : Zp) (H : Hp) (σ : St) : List A → List V → List (List Addr) → Prop
  | [], vs, Os => vs = [] ∧ Os = []
  | a :: as, vs, Os => ∃ v ws O Os', vs = v :: ws ∧ Os = O :: Os' ∧ RepA K Z H σ a v O ∧ RepAs K Z H σ as ws Os'
def tAs (w : Wc) (m : Mn (List A)) : TA := fun σ H Q => ∃ Z δ F, ER w.K Z H δ σ F ∧ match m δ with
  | .ok as δ' => ∀ vs Z' H' F' Os, ER w.K Z' H' δ' σ F' → RepAs w.K Z' H' σ as vs Os → Tmp Z' F' Os.flatten → Post Z H (Pf F) Z' H' (fun a => Pf F' a ∨ a ∈ Os.flatten) → Q vs H'
  | .exc x δ' => xOut w σ Z H F x δ'
  | .fail => False

/-! ### composing -/
section
variable {w : Wc} {Z Z1 Z2 : Zp} {H H1 H2 : Hp} {δ δ1 δ2 : Env'} {σ : St} {F F1 F2 : Fp}
theorem RepA.trk : ∀ {a : A} {v : V} {O : List Addr}, RepA w.K Z H σ a v O → ∀ b ∈ O, ∃ o, H b = some o
  | .nm _, _, _, h, b, m => by rw [h.2] at m; cases m
  | .dt _, _, _, h, b, m => Rep.trk h b m
theorem RepA.mono (x : Zx Z H Z1 H1) {a : A} {v : V} {O : List Addr} (k : ∀ b ∈ O, ∀ o, H b = some o → H1 b = some o) (h : RepA w.K Z H σ a v O) : RepA w.K Z1 H1 σ a v O := by
  cases a with
  | nm i => exact h
  | dt d => exact Rep.mono x k h
theorem RepAs.trk : ∀ {as : List A} {vs : List V} {Os : List (List Addr)}, RepAs w.K Z H σ as vs Os → ∀ b ∈ Os.flatten, ∃ o, H b = some o
  | [], _, _, h, b, m => by rw [h.2] at m; cases m
  | _ :: _, _, _, ⟨_, _, O, Os', _, e2, r1, r2⟩, b, m => by
    rw [e2, List.flatten_cons] at m
    rcases List.mem_append.mp m with m | m
    · exact r1.trk b m
    · exact RepAs.trk r2 b m
theorem RepAs.mono (x : Zx Z H Z1 H1) : ∀ {as : List A} {vs : List V} {Os : List (List Addr)}, (∀ b ∈ Os.flatten, ∀ o, H b = some o → H1 b = some o) → RepAs w.K Z H σ as vs Os → RepAs w.K Z1 H1 σ as vs Os
  | [], _, _, _, h => h
  | _ :: _, _, _, k, ⟨v, ws, O, Os', e1, e2, r1, r2⟩ =>
    ⟨v, ws, O, Os', e1, e2, r1.mono x fun b m => k b (by rw [e2, List.flatten_cons]; exact List.mem_append_left _ m), RepAs.mono x (fun b m => k b (by rw [e2, List.flatten_cons]; exact List.mem_append_right _ m)) r2⟩
/-- a temporary beside an environment that changes: the general form -/
theorem Tmp.on {O : List Addr} (t : Tmp Z F O) (tr : ∀ a ∈ O, ∃ o, H a = some o) {P2 : Zp} (p : Post Z H (Pf F) Z1 H1 P2) (hP : ∀ i a, a ∈ F1 i → P2 a) : Tmp Z1 F1 O := by
  refine ⟨t.nd, fun a m z => ?_, fun a m i mi => ?_⟩
  · rcases p.zn a z with z | ⟨i, z⟩ | z
    · exact t.nz a m z
    · exact t.dj a m i z
    · obtain ⟨o, q⟩ := tr a m
      rw [q] at z; cases z
  · rcases p.on a (hP i a mi) with ⟨j, z⟩ | z
    · exact t.dj a m j z
    · obtain ⟨o, q⟩ := tr a m
      rw [q] at z; cases z
theorem Tmp.stays {O : List Addr} (t : Tmp Z F O) {P2 : Zp} (p : Post Z H (Pf F) Z1 H1 P2) : ∀ a ∈ O, ∀ o, H a = some o → H1 a = some o := fun a m o q => p.kp a o q fun ⟨i, x⟩ => t.dj a m i x
/-- two sets of temporaries, the second made behind the first -/
theorem Tmp.app {O O2 : List Addr} (t : Tmp Z F O) (tr : ∀ a ∈ O, ∃ o, H a = some o) {P2 : Zp} (p : Post Z H (Pf F) Z1 H1 P2) (hP : ∀ i a, a ∈ F1 i → P2 a) (hO : ∀ a ∈ O2, P2 a) (t2 : Tmp Z1 F1 O2) : Tmp Z1 F1 (O ++ O2) := by
  have t1 := t.on tr p hP
  refine ⟨List.nodup_append.mpr ⟨t.nd, t2.nd, fun a ha b hb e => ?_⟩, fun a m => (List.mem_append.mp m).elim (t1.nz a) (t2.nz a), fun a m => (List.mem_append.mp m).elim (t1.dj a) (t2.dj a)⟩
  subst e
  rcases p.on a (hO a hb) with ⟨j, z⟩ | z
  · exact t.dj a ha j z
  · obtain ⟨o, q⟩ := tr a ha
    rw [q] at z; cases z
/-- Post from Z to Z1 with temporaries O, then on from the environment alone -/
theorem Post.then {O : List Addr} {P2 : Zp} (p : Post Z H (Pf F) Z1 H1 (fun a => Pf F1 a ∨ a ∈ O)) (q : Post Z1 H1 (Pf F1) Z2 H2 P2) : Post Z H (Pf F) Z2 H2 (fun a => P2 a ∨ a ∈ O) :=
  p.trans (q.mono (fun a h => .inl h) fun a h => h.elim .inl fun h => .inr (.inr h))
theorem Post.drop {P P2 P3 : Zp} (p : Post Z H P Z1 H1 P2) (h : ∀ a, P3 a → P2 a) : Post Z H P Z1 H1 P3 := ⟨p.zm, p.zn, fun a z => p.on a (h a z), p.kp⟩
end
end Yv

set_option Elab.async false
set_option linter.all false
set_option maxRecDepth 100000
set_option maxHeartbeats 4000000
/-! I3: names, values, displays, operators: meanings m and that the layer's readings follow from them -/
namespace Yv
open PySem L2

theorem PE.imp {X : Cx} {e : Expr} {t t' : TE} (h : PE X e t) (k : ∀ σ H Q, t' σ H Q → t σ H Q) : PE X e t' := ⟨fun p s σ H Q I q => h.run p s σ H Q I (k σ H Q q)⟩
theorem PT.imp {X : Cx} {e : Expr} {t t' : TT} (h : PT X e t) (k : ∀ σ H Q, t' σ H Q → t σ H Q) : PT X e t' := ⟨fun p s σ H Q I q => h.run p s σ H Q I (k σ H Q q)⟩
theorem PW.imp {X : Cx} {e : Expr} {t t' : TT} (h : PW X e t) (k : ∀ σ H Q, t' σ H Q → t σ H Q) : PW X e t' := ⟨fun w p s σ H Q I q => h.run w p s σ H Q I (k σ H Q q)⟩
theorem PA.imp {X : Cx} {e : List Expr} {t t' : TA} (h : PA X e t) (k : ∀ σ H Q, t' σ H Q → t σ H Q) : PA X e t' := ⟨fun a p s σ H Q I q => h.run a p s σ H Q I (k σ H Q q)⟩
theorem PS.imp {X : Cx} {e : Stmt} {t t' : TS} (h : PS X e t) (k : ∀ D σ H, t' D σ H → t D σ H) : PS X e t' := ⟨fun p s σ H D I q => h.run p s σ H D I (k D σ H q)⟩
theorem PSs.imp {X : Cx} {e : List Stmt} {t t' : TS} (h : PSs X e t) (k : ∀ D σ H, t' D σ H → t D σ H) : PSs X e t' := ⟨fun p s σ H D I q => h.run p s σ H D I (k D σ H q)⟩

/-! ### operands -/
def resA (δ : Env') : A → Option D
  | .nm i => (δ[i]?).join
  | .dt d => some d
def resAs (δ : Env') : List A → Option (List D)
  | [] => some []
  | a :: as => match resA δ a, resAs δ as with
    | some d, some ds => some (d :: ds)
    | _, _ => none
/-- an operand as a value: what a name holds is frozen -/
def valA (a : A) (δ : Env') : R D := match a with
  | .dt d => .ok d δ
  | .nm i => match δ[i]? with
    | some (some d) => .ok d.frz (δ.set i (some d.frz))
    | _ => .fail
def mVal (m : Mn A) : Mn D := fun δ => (m δ).bind valA
def mDt (m : Mn D) : Mn A := fun δ => (m δ).bind fun d δ1 => .ok (.dt d) δ1

section
variable {w : Wc} {Z Z1 Z2 Z3 : Zp} {H H1 H2 H3 : Hp} {δ δ1 δ2 : Env'} {σ : St} {F F1 F2 : Fp}
theorem join_some {δ : Env'} {i : Nat} {d : D} (h : (δ[i]?).join = some d) : δ[i]? = some (some d) := by
  cases q : δ[i]? with
  | none => rw [q] at h; cases h
  | some o => rw [q] at h; exact congrArg some h
/-- what an operand that was read before is now -/
theorem ER.opnd (e : ER w.K Z H δ σ F) {a : A} {v : V} {O : List Addr} (r : RepA w.K Z H σ a v O) {d : D} (h : resA δ a = some d) : ∃ P, Rep w.K Z H d v P := by
  cases a with
  | nm i =>
    obtain ⟨v', e1, r'⟩ := e.rep i d (join_some h)
    rw [r.1] at e1; cases e1
    exact ⟨_, r'⟩
  | dt d' => cases h; exact ⟨O, r⟩
/-- data and values side by side -/
def DVs (K : PySem.W.Frag) (Z : Zp) (H : Hp) : List D → List V → Prop
  | [], vs => vs = []
  | d :: ds, vs => ∃ v ws, vs = v :: ws ∧ (∃ O, Rep K Z H d v O) ∧ DVs K Z H ds ws
theorem ER.opnds (e : ER w.K Z H δ σ F) : ∀ {as : List A} {vs : List V} {Os : List (List Addr)}, RepAs w.K Z H σ as vs Os → ∀ {ds : List D}, resAs δ as = some ds → DVs w.K Z H ds vs
  | [], _, _, h, ds, q => by cases q; exact h.1
  | a :: as, _, _, ⟨v, ws, O, Os', e1, _, r1, r2⟩, ds, q => by
    unfold resAs at q
    cases h1 : resA δ a with
    | none => rw [h1] at q; simp at q
    | some d =>
      cases h2 : resAs δ as with
      | none => rw [h1, h2] at q; simp at q
      | some ds' =>
        rw [h1, h2] at q; cases q
        exact ⟨v, ws, e1, e.opnd r1 h1, ER.opnds e r2 h2⟩
/-- freezing what a slot holds -/
theorem ER.freeze (e : ER w.K Z H δ σ F) {i : Nat} {d : D} (h : δ[i]? = some (some d)) :
    ER w.K (fun a => Z a ∨ a ∈ F i) H (δ.set i (some d.frz)) σ (fun j => if j = i then [] else F j) ∧
    Post Z H (Pf F) (fun a => Z a ∨ a ∈ F i) H (Pf fun j => if j = i then [] else F j) ∧ ∃ v, σ[i]? = some (some v) ∧ Rep w.K (fun a => Z a ∨ a ∈ F i) H d.frz v [] := by
  obtain ⟨v, e1, r⟩ := e.rep i d h
  have hi : i < δ.length := (List.getElem?_eq_some_iff.mp h).1
  have fr : Rep w.K (fun a => Z a ∨ a ∈ F i) H d.frz v [] := r.frz (fun _ z => .inl z) fun a m => .inr m
  refine ⟨⟨by rw [List.length_set]; exact e.len, fun j d' q => ?_, fun j q => ?_, fun j => ?_, fun j k a m1 m2 => ?_, fun j a m z => ?_, fun a z => ?_⟩, ⟨fun _ z => .inl z, fun a z => z.elim .inl fun m => .inr (.inl ⟨i, m⟩), fun a ⟨j, m⟩ => ?_, fun _ _ q _ => q⟩, v, e1, fr⟩
  · by_cases hj : j = i
    · subst hj
      rw [List.getElem?_set_self hi] at q; cases q
      exact ⟨v, e1, by rw [if_pos rfl]; exact fr⟩
    · rw [List.getElem?_set_ne (Ne.symm hj)] at q
      obtain ⟨v', e2, r'⟩ := e.rep j d' q
      exact ⟨v', e2, by rw [if_neg hj]; exact r'.mono ⟨fun _ z => .inl z, fun _ _ _ q => q⟩ fun _ _ _ q => q⟩
  · by_cases hj : j = i
    · rw [if_pos hj]
    · rw [if_neg hj]
      exact e.emp j fun d' q' => q d' (by rw [List.getElem?_set_ne (Ne.symm hj)]; exact q')
  · by_cases hj : j = i
    · rw [if_pos hj]; exact List.nodup_nil
    · rw [if_neg hj]; exact e.nd j
  · by_cases hj : j = i
    · rw [if_pos hj] at m1; cases m1
    · by_cases hk : k = i
      · rw [if_pos hk] at m2; cases m2
      · rw [if_neg hj] at m1; rw [if_neg hk] at m2
        exact e.dj j k a m1 m2
  · by_cases hj : j = i
    · rw [if_pos hj] at m; cases m
    · rw [if_neg hj] at m
      rcases z with z | z
      · exact e.nz j a m z
      · exact hj (e.dj j i a m z)
  · rcases z with z | z
    · exact e.zt a z
    · exact e.trk z
  · have m : a ∈ (if j = i then [] else F j) := m
    by_cases hj : j = i
    · rw [if_pos hj] at m; cases m
    · rw [if_neg hj] at m; exact .inl ⟨j, m⟩
/-- THE STEP from an operand to a value -/
theorem tA_val {m : Mn A} {H : Hp} {Q : VK} (h : tE w (mVal m) σ H Q) : tA w m σ H Q := by
  obtain ⟨Z, δ, F, e, h⟩ := h
  refine ⟨Z, δ, F, e, ?_⟩
  unfold mVal at h
  cases q : m δ with
  | fail => rw [q] at h; exact h
  | exc x δ1 => rw [q] at h; exact h
  | ok a δ1 =>
    rw [q] at h
    intro v Z1 H1 F1 O e1 r1 t1 p1
    cases a with
    | dt d => exact h v Z1 H1 F1 O e1 r1 t1 p1
    | nm i =>
      have h : (match (match δ1[i]? with | some (some d) => R.ok d.frz (δ1.set i (some d.frz)) | _ => R.fail : R D) with
        | .ok d δ' => ∀ v Z' H' F' O, ER w.K Z' H' δ' σ F' → Rep w.K Z' H' d v O → Tmp Z' F' O → Post Z H (Pf F) Z' H' (fun a => Pf F' a ∨ a ∈ O) → Q v H'
        | .exc x δ' => xOut w σ Z H F x δ'
        | .fail => False) := h
      cases hd : δ1[i]? with
      | none => rw [hd] at h; exact h.elim
      | some o =>
        cases o with
        | none => rw [hd] at h; exact h.elim
        | some d =>
          rw [hd] at h
          obtain ⟨e2, p2, v', e3, r3⟩ := e1.freeze hd
          rw [r1.1] at e3; cases e3
          refine h v _ H1 _ [] e2 r3 .nil ?_
          have p1' : Post Z H (Pf F) Z1 H1 (Pf F1) := p1.drop fun a z => .inl z
          exact (p1'.trans p2).drop fun a z => z.elim id fun z => by cases z
theorem tE_dt {m : Mn D} {H : Hp} {Q : VK} (h : tA w (mDt m) σ H Q) : tE w m σ H Q := by
  obtain ⟨Z, δ, F, e, h⟩ := h
  refine ⟨Z, δ, F, e, ?_⟩
  unfold mDt at h
  cases q : m δ with
  | fail => rw [q] at h; exact h
  | exc x δ1 => rw [q] at h; exact h
  | ok a δ1 => rw [q] at h; exact h

/-! ### what is made anew -/
structure Fresh (Z : Zp) (H : Hp) (Z' : Zp) (H' : Hp) (O : List Addr) : Prop where
  po : Post Z H (fun _ => False) Z' H' (fun a => a ∈ O)
  nd : O.Nodup
  nz : ∀ a ∈ O, ¬ Z' a
  zt : ∀ a, Z' a → ∃ o, H' a = some o
theorem Fresh.refl (zt : ∀ a, Z a → ∃ o, H a = some o) : Fresh Z H Z H [] := ⟨⟨fun _ h => h, fun _ h => .inl h, (fun _ h => by cases h), fun _ _ h _ => h⟩, List.nodup_nil, (fun _ h => by cases h), zt⟩
theorem Fresh.own (zt : ∀ a, Z a → ∃ o, H a = some o) {p : Addr} {o : HO} (hp : H p = none) : Fresh Z H Z (upd H p o) [p] :=
  ⟨⟨fun _ h => h, fun _ h => .inl h, fun a h => .inr (by rw [List.mem_singleton.mp h]; exact hp), fun a u h _ => by rw [upd_ne (ne_of_none h hp)]; exact h⟩, by simp, (fun a h z => by
    rw [List.mem_singleton.mp h] at z
    obtain ⟨u, q⟩ := zt _ z
    rw [q] at hp; cases hp), fun a z => by
    obtain ⟨u, q⟩ := zt _ z
    exact ⟨u, by rw [upd_ne (ne_of_none q hp)]; exact q⟩⟩
theorem Fresh.tup (zt : ∀ a, Z a → ∃ o, H a = some o) {p : Addr} {o : HO} (hp : H p = none) : Fresh Z H (fun a => Z a ∨ a = p) (upd H p o) [] :=
  ⟨⟨fun _ h => .inl h, fun a h => h.elim .inl fun e => .inr (.inr (by rw [e]; exact hp)), (fun a h => by cases h), fun a u h _ => by rw [upd_ne (ne_of_none h hp)]; exact h⟩, List.nodup_nil, (fun _ h => by cases h), fun a z => by
    rcases z with z | z
    · obtain ⟨u, q⟩ := zt _ z
      exact ⟨u, by rw [upd_ne (ne_of_none q hp)]; exact q⟩
    · exact ⟨o, by rw [z, upd_same]⟩⟩
theorem Fresh.zx {O : List Addr} (f : Fresh Z H Z1 H1 O) : Zx Z H Z1 H1 := f.po.zx fun _ _ z => z
theorem Fresh.keep {O : List Addr} (f : Fresh Z H Z1 H1 O) (e : ER w.K Z H δ σ F) : ER w.K Z1 H1 δ σ F := e.keep f.po (fun _ z => z.elim) f.zt
theorem Fresh.tmp {O : List Addr} (f : Fresh Z H Z1 H1 O) (e : ER w.K Z H δ σ F) : Tmp Z1 F O := ⟨f.nd, f.nz, fun a m i mi => by
  rcases f.po.on a m with z | z
  · exact z
  · obtain ⟨o, q⟩ := e.trk mi
    rw [q] at z; cases z⟩
/-- a made value ends an expression -/
theorem fin_made {Q : VK} {d : D} {P1 : Zp} (h : ∀ v Z' H' F' O, ER w.K Z' H' δ2 σ F' → RepA w.K Z' H' σ (.dt d) v O → Tmp Z' F' O → Post Z H (Pf F) Z' H' (fun a => Pf F' a ∨ a ∈ O) → Q v H')
    (e2 : ER w.K Z2 H2 δ2 σ F2) (p : Post Z H (Pf F) Z2 H2 P1) (hP : ∀ a, Pf F2 a → P1 a) {v : V} {O : List Addr} (r : Rep w.K Z3 H3 d v O) (f : Fresh Z2 H2 Z3 H3 O) : Q v H3 := by
  refine h v Z3 H3 F2 O (f.keep e2) r (f.tmp e2) ?_
  refine (p.trans (f.po.mono (P' := P1) (P1' := fun a => P1 a ∨ a ∈ O) (fun _ z => z.elim) fun a z => z.elim .inr .inl)).drop fun a z => z.elim (fun z => .inl (hP a z)) .inr
end

/-! ### operations on values -/
/-- P: what the operation makes of data; r: the layer's reading -/
def Pr2 (K : PySem.W.Frag) (r : R2) (P : D → D → Option D) : Prop := ∀ (Z : Zp) (H : Hp) (d e : D) (x y : V) (res : D) (Q : VK), (∃ O, Rep K Z H d x O) → (∃ O, Rep K Z H e y O) → (∀ a, Z a → ∃ o, H a = some o) → P d e = some res →
  (∀ v Z' H' O, Rep K Z' H' res v O → Fresh Z H Z' H' O → Q v H') → r x y H Q
def Pr1 (K : PySem.W.Frag) (r : V → Hp → VK → Prop) (P : D → Option D) : Prop := ∀ (Z : Zp) (H : Hp) (d : D) (x : V) (res : D) (Q : VK), (∃ O, Rep K Z H d x O) → (∀ a, Z a → ∃ o, H a = some o) → P d = some res →
  (∀ v Z' H' O, Rep K Z' H' res v O → Fresh Z H Z' H' O → Q v H') → r x H Q
def PrL (K : PySem.W.Frag) (r : List V → Hp → VK → Prop) (P : List D → Option D) : Prop := ∀ (Z : Zp) (H : Hp) (ds : List D) (xs : List V) (res : D) (Q : VK), DVs K Z H ds xs → (∀ a, Z a → ∃ o, H a = some o) → P ds = some res →
  (∀ v Z' H' O, Rep K Z' H' res v O → Fresh Z H Z' H' O → Q v H') → r xs H Q
/-- either of two operations -/
theorem Pr2.or {K : PySem.W.Frag} {r r' : R2} {P P' : D → D → Option D} (h : Pr2 K r P) (h' : Pr2 K r' P') : Pr2 K (fun x y H Q => r x y H Q ∨ r' x y H Q) (fun d e => (P d e).or (P' d e)) := fun Z H d e x y res Q a b zt q k => by
  have q : (P d e).or (P' d e) = some res := q
  cases p : P d e with
  | some z => rw [p] at q; cases q; exact .inl (h Z H d e x y _ Q a b zt p k)
  | none => rw [p] at q; exact .inr (h' Z H d e x y _ Q a b zt q k)
theorem PrL.or {K : PySem.W.Frag} {r r' : List V → Hp → VK → Prop} {P P' : List D → Option D} (h : PrL K r P) (h' : PrL K r' P') : PrL K (fun x H Q => r x H Q ∨ r' x H Q) (fun d => (P d).or (P' d)) := fun Z H ds xs res Q a zt q k => by
  have q : (P ds).or (P' ds) = some res := q
  cases p : P ds with
  | some z => rw [p] at q; cases q; exact .inl (h Z H ds xs _ Q a zt p k)
  | none => rw [p] at q; exact .inr (h' Z H ds xs _ Q a zt q k)
def ofO (o : Option D) (δ : Env') : R A := match o with
  | some d => .ok (.dt d) δ
  | none => .fail
def mOp2 (P : D → D → Option D) (ma mb : Mn A) : Mn A := fun δ => (ma δ).bind fun a δ1 => (mb δ1).bind fun b δ2 => match resA δ2 a, resA δ2 b with
  | some x, some y => ofO (P x y) δ2
  | _, _ => .fail
def mOp1 (P : D → Option D) (ma : Mn A) : Mn A := fun δ => (ma δ).bind fun a δ1 => match resA δ1 a with
  | some x => ofO (P x) δ1
  | none => .fail
def mOpL (P : List D → Option D) (ms : Mn (List A)) : Mn A := fun δ => (ms δ).bind fun as δ1 => match resAs δ1 as with
  | some xs => ofO (P xs) δ1
  | none => .fail
section
variable {w : Wc} {σ : St} {H : Hp}
theorem tOp2 {r : R2} {P : D → D → Option D} (hp : Pr2 w.K r P) {ma mb : Mn A} {Q : VK} (h : tA w (mOp2 P ma mb) σ H Q) : tOp r (tA w ma) (tA w mb) σ H Q := by
  obtain ⟨Z, δ, F, e, h⟩ := h
  refine ⟨Z, δ, F, e, ?_⟩
  unfold mOp2 at h
  cases qa : ma δ with
  | fail => rw [qa] at h; exact h
  | exc x δ1 => rw [qa] at h; exact h
  | ok a δ1 =>
    rw [qa] at h
    simp only [R.bind_ok] at h
    intro v1 Z1 H1 F1 O1 e1 r1 t1 p1
    refine ⟨Z1, δ1, F1, e1, ?_⟩
    cases qb : mb δ1 with
    | fail => rw [qb] at h; exact h
    | exc x δ2 =>
      rw [qb] at h
      intro cls dd Z' H' F' e' x' p'
      exact h cls dd Z' H' F' e' x' ((p1.drop (P3 := Pf F1) fun a z => .inl z).trans p')
    | ok b δ2 =>
      rw [qb] at h
      simp only [R.bind_ok] at h
      intro v2 Z2 H2 F2 O2 e2 r2 t2 p2
      have tr1 : ∀ a ∈ O1, ∃ o, H1 a = some o := r1.trk
      have r1' : RepA w.K Z2 H2 σ a v1 O1 := r1.mono (p2.zx e1.zP) (t1.stays p2)
      cases ra : resA δ2 a with
      | none => rw [ra] at h; exact h.elim
      | some x =>
        cases rb : resA δ2 b with
        | none => rw [ra, rb] at h; exact h.elim
        | some y =>
          rw [ra, rb] at h
          cases hr : P x y with
          | none => simp only [hr, ofO] at h
          | some res =>
            simp only [hr, ofO] at h
            refine hp Z2 H2 x y v1 v2 res Q (e2.opnd r1' ra) (e2.opnd r2 rb) e2.zt hr fun v Z3 H3 O r3 f3 => ?_
            exact fin_made h e2 (p1.then p2) (fun a z => .inl (.inl z)) r3 f3
theorem tOp1 {r : V → Hp → VK → Prop} {P : D → Option D} (hp : Pr1 w.K r P) {ma : Mn A} {Q : VK} (h : tA w (mOp1 P ma) σ H Q) : tUn r (tA w ma) σ H Q := by
  obtain ⟨Z, δ, F, e, h⟩ := h
  refine ⟨Z, δ, F, e, ?_⟩
  unfold mOp1 at h
  cases qa : ma δ with
  | fail => rw [qa] at h; exact h
  | exc x δ1 => rw [qa] at h; exact h
  | ok a δ1 =>
    rw [qa] at h
    simp only [R.bind_ok] at h
    intro v1 Z1 H1 F1 O1 e1 r1 t1 p1
    cases ra : resA δ1 a with
    | none => rw [ra] at h; exact h.elim
    | some x =>
      rw [ra] at h
      cases hr : P x with
      | none => simp only [hr, ofO] at h
      | some res =>
        simp only [hr, ofO] at h
        exact hp Z1 H1 x v1 res Q (e1.opnd r1 ra) e1.zt hr fun v Z3 H3 O r3 f3 => fin_made h e1 p1 (fun a z => .inl z) r3 f3
theorem tOpL {r : List V → Hp → VK → Prop} {P : List D → Option D} (hp : PrL w.K r P) {ms : Mn (List A)} {Q : VK} (h : tA w (mOpL P ms) σ H Q) : tAs w ms σ H (fun xs H1 => r xs H1 Q) := by
  obtain ⟨Z, δ, F, e, h⟩ := h
  refine ⟨Z, δ, F, e, ?_⟩
  unfold mOpL at h
  cases qa : ms δ with
  | fail => rw [qa] at h; exact h
  | exc x δ1 => rw [qa] at h; exact h
  | ok a δ1 =>
    rw [qa] at h
    simp only [R.bind_ok] at h
    intro v1 Z1 H1 F1 O1 e1 r1 t1 p1
    cases ra : resAs δ1 a with
    | none => rw [ra] at h; exact h.elim
    | some x =>
      rw [ra] at h
      cases hr : P x with
      | none => simp only [hr, ofO] at h
      | some res =>
        simp only [hr, ofO] at h
        exact hp Z1 H1 x v1 res Q (e1.opnds r1 ra) e1.zt hr fun v Z3 H3 O r3 f3 => fin_made h e1 p1 (fun a z => .inl z) r3 f3
/-! ### argument lists -/
def mNil : Mn (List A) := fun δ => .ok [] δ
def mCons (ma : Mn A) (ms : Mn (List A)) : Mn (List A) := fun δ => (ma δ).bind fun a δ1 => (ms δ1).bind fun as δ2 => .ok (a :: as) δ2
theorem tAs_nil {Q : List V → Hp → Prop} (h : tAs w mNil σ H Q) : tNil σ H Q := by
  obtain ⟨Z, δ, F, e, h⟩ := h
  exact h [] Z H F [] e ⟨rfl, rfl⟩ .nil (Post.refl.drop fun a z => z.elim id fun z => by cases z)
theorem tAs_cons {ma : Mn A} {ms : Mn (List A)} {Q : List V → Hp → Prop} (h : tAs w (mCons ma ms) σ H Q) : tCons (tA w ma) (tAs w ms) σ H Q := by
  obtain ⟨Z, δ, F, e, h⟩ := h
  refine ⟨Z, δ, F, e, ?_⟩
  unfold mCons at h
  cases qa : ma δ with
  | fail => rw [qa] at h; exact h
  | exc x δ1 => rw [qa] at h; exact h
  | ok a δ1 =>
    rw [qa] at h
    simp only [R.bind_ok] at h
    intro v1 Z1 H1 F1 O1 e1 r1 t1 p1
    refine ⟨Z1, δ1, F1, e1, ?_⟩
    cases qb : ms δ1 with
    | fail => rw [qb] at h; exact h
    | exc x δ2 =>
      rw [qb] at h
      intro cls dd Z' H' F' e' x' p'
      exact h cls dd Z' H' F' e' x' ((p1.drop (P3 := Pf F1) fun a z => .inl z).trans p')
    | ok as δ2 =>
      rw [qb] at h
      simp only [R.bind_ok] at h
      intro vs Z2 H2 F2 Os e2 r2 t2 p2
      refine h (v1 :: vs) Z2 H2 F2 (O1 :: Os) e2 ⟨v1, vs, O1, Os, rfl, rfl, r1.mono (p2.zx e1.zP) (t1.stays p2), r2⟩ ?_ ?_
      · rw [List.flatten_cons]
        exact t1.app r1.trk p2 (fun i a m => .inl ⟨i, m⟩) (fun a m => .inr m) t2
      · rw [List.flatten_cons]
        exact (p1.then p2).drop fun a z => z.elim (fun z => .inl (.inl z)) fun z => (List.mem_append.mp z).elim .inr fun z => .inl (.inr z)
end
end Yv

set_option Elab.async false
set_option linter.all false
set_option maxRecDepth 100000
set_option maxHeartbeats 4000000
/-! I4: names, constants, displays, tests, and, or, not, if-expressions, chains -/
namespace Yv
open PySem L2

/-! ### names, constants -/
def mFail {α : Type} : Mn α := fun _ => .fail
def mC (d : D) : Mn A := fun δ => .ok (.dt d) δ
def mVar (i : Nat) : Mn A := fun δ => match δ[i]? with
  | some (some _) => .ok (.nm i) δ
  | _ => .fail
section
variable {w : Wc} {σ : St} {H : Hp}
theorem tFail {Q : VK} {t : TE} (h : tA w mFail σ H Q) : t σ H Q := by
  obtain ⟨Z, δ, F, e, h⟩ := h
  exact h.elim
theorem tConst {d : D} {v : V} {Q : VK} (hr : ∀ Z H, Rep w.K Z H d v []) (h : tA w (mC d) σ H Q) : tC v σ H Q := by
  obtain ⟨Z, δ, F, e, h⟩ := h
  exact h v Z H F [] e (hr Z H) .nil (Post.refl.drop fun a z => z.elim id fun z => by cases z)
theorem tVar' {i : Nat} {Q : VK} (h : tA w (mVar i) σ H Q) : tVar i σ H Q := by
  obtain ⟨Z, δ, F, e, h⟩ := h
  unfold mVar at h
  cases q : δ[i]? with
  | none => rw [q] at h; exact h.elim
  | some o =>
    cases o with
    | none => rw [q] at h; exact h.elim
    | some d =>
      rw [q] at h
      obtain ⟨v, e1, r⟩ := e.rep i d q
      exact ⟨v, e1, h v Z H F [] e ⟨e1, rfl⟩ .nil (Post.refl.drop fun a z => z.elim id fun z => by cases z)⟩

/-! ### displays -/
def allDt : List A → Option (List D)
  | [] => some []
  | .dt d :: as => (allDt as).map (d :: ·)
  | .nm _ :: _ => none
theorem RepAs.dts {Z : Zp} {H : Hp} : ∀ {as : List A} {vs : List V} {Os : List (List Addr)} {ds : List D}, RepAs w.K Z H σ as vs Os → allDt as = some ds → RepL w.K Z H ds vs Os.flatten
  | [], _, _, _, h, q => by cases q; rw [h.1, h.2]; exact ⟨rfl, rfl⟩
  | .dt d :: as, _, _, ds, ⟨v, ws, O, Os', e1, e2, r1, r2⟩, q => by
    unfold allDt at q
    cases h2 : allDt as with
    | none => rw [h2] at q; cases q
    | some ds' =>
      rw [h2] at q; cases q
      exact ⟨v, ws, O, Os'.flatten, e1, by rw [e2]; rfl, r1, RepAs.dts r2 h2⟩
  | .nm _ :: _, _, _, _, _, q => by cases q
def sizeOk (n : Nat) : Bool := n ≤ 1000000
theorem sizeOk_le {n : Nat} (h : sizeOk n = true) : n ≤ sizeLine := by
  have : n ≤ 1000000 := by simpa [sizeOk] using h
  rw [sizeLine_eq]; omega
theorem sizeOk_lt {n : Nat} (h : sizeOk n = true) : n < sizeLine := by
  have : n ≤ 1000000 := by simpa [sizeOk] using h
  rw [sizeLine_eq]; omega
def mTup (ms : Mn (List A)) : Mn A := fun δ => (ms δ).bind fun as δ1 => match allDt as with
  | some ds => if sizeOk ds.length then .ok (.dt (.tup ds)) δ1 else .fail
  | none => .fail
def mLst (ms : Mn (List A)) : Mn A := fun δ => (ms δ).bind fun as δ1 => match allDt as with
  | some ds => if sizeOk ds.length then .ok (.dt (.lst true ds)) δ1 else .fail
  | none => .fail
theorem tTup' {ms : Mn (List A)} {Q : VK} (h : tA w (mTup ms) σ H Q) : tTupY (tAs w ms) σ H Q := by
  obtain ⟨Z, δ, F, e, h⟩ := h
  refine ⟨Z, δ, F, e, ?_⟩
  unfold mTup at h
  cases qa : ms δ with
  | fail => rw [qa] at h; exact h
  | exc x δ1 => rw [qa] at h; exact h
  | ok as δ1 =>
    rw [qa] at h
    simp only [R.bind_ok] at h
    intro vs Z1 H1 F1 Os e1 r1 t1 p1
    cases hd : allDt as with
    | none => rw [hd] at h; exact h.elim
    | some ds =>
      rw [hd] at h
      have rl := r1.dts hd
      by_cases hs : sizeOk ds.length = true
      · simp only [hs, if_true] at h
        refine ⟨by rw [← rl.length]; exact sizeOk_le hs, fun p ob hp hob => ?_⟩
        have f := Fresh.tup (o := HO.frz ob (.tup vs)) e1.zt hp
        have tr := rl.trk
        have ne : ∀ a ∈ Os.flatten, a ≠ p := fun a m z => by
          obtain ⟨o, q⟩ := tr a m
          rw [z, hp] at q; cases q
        refine h (.ref p) _ _ F1 Os.flatten (f.keep e1) ?_ ⟨t1.nd, fun a m z => z.elim (t1.nz a m) (ne a m), t1.dj⟩ ?_
        · refine ⟨p, vs, rfl, .inl ⟨.inr rfl, ob, hob, upd_same⟩, rl.mono ⟨fun _ z => .inl z, fun a o _ q => by rw [upd_ne (ne_of_none q hp)]; exact q⟩ fun a m o q => by rw [upd_ne (ne a m)]; exact q⟩
        · exact p1.trans ((post_new hp).drop fun a z => z)
      · simp only [Bool.not_eq_true] at hs
        simp only [hs] at h
        exact h.elim
theorem tLst' {ms : Mn (List A)} {Q : VK} (h : tA w (mLst ms) σ H Q) : tLst (tAs w ms) σ H Q := by
  obtain ⟨Z, δ, F, e, h⟩ := h
  refine ⟨Z, δ, F, e, ?_⟩
  unfold mLst at h
  cases qa : ms δ with
  | fail => rw [qa] at h; exact h
  | exc x δ1 => rw [qa] at h; exact h
  | ok as δ1 =>
    rw [qa] at h
    simp only [R.bind_ok] at h
    intro vs Z1 H1 F1 Os e1 r1 t1 p1
    cases hd : allDt as with
    | none => rw [hd] at h; exact h.elim
    | some ds =>
      rw [hd] at h
      have rl := r1.dts hd
      by_cases hs : sizeOk ds.length = true
      · simp only [hs, if_true] at h
        refine ⟨by rw [← rl.length]; exact sizeOk_le hs, fun p hp => ?_⟩
        have f := Fresh.own (o := HO.lst vs) e1.zt hp
        have tr := rl.trk
        have ne : ∀ a ∈ Os.flatten, a ≠ p := fun a m z => by
          obtain ⟨o, q⟩ := tr a m
          rw [z, hp] at q; cases q
        have fp := f.tmp e1
        refine h (.ref p) _ _ F1 (p :: Os.flatten) (f.keep e1) ⟨p, vs, Os.flatten, rfl, upd_same, rfl, rl.mono f.zx fun a m o q => by rw [upd_ne (ne a m)]; exact q⟩
          ⟨List.nodup_cons.mpr ⟨fun m => ne p m rfl, t1.nd⟩, fun a m => ?_, fun a m => ?_⟩ ?_
        · rcases List.mem_cons.mp m with m | m
          · rw [m]; exact fp.nz p (by simp)
          · exact t1.nz a m
        · rcases List.mem_cons.mp m with m | m
          · rw [m]; exact fp.dj p (by simp)
          · exact t1.dj a m
        · exact (p1.trans (post_own hp)).drop fun a z => z.elim (fun z => .inl (.inl z)) fun z => (List.mem_cons.mp z).elim .inr fun z => .inl (.inr z)
      · simp only [Bool.not_eq_true] at hs
        simp only [hs] at h
        exact h.elim
/-- {} -/
def mDct0 : Mn A := fun δ => .ok (.dt (.dct true [])) δ

/-! ### tests -/
/-- a value that is True or False, as a test -/
def mBl (m : Mn A) : Mn Bool := fun δ => (m δ).bind fun a δ1 => match a with
  | .dt (.bl b) => .ok b δ1
  | _ => .fail
def truD : D → Option Bool
  | .non => some false
  | .bl b => some b
  | .int i => some (i != 0)
  | .str x => if sizeOk x.length then some ((x.length : Int) != 0) else none
  | .tup xs => some !xs.isEmpty
  | .lst _ xs => some !xs.isEmpty
  | .scr ns => some !ns.isEmpty
  | _ => none
def mTru (m : Mn A) : Mn Bool := fun δ => (m δ).bind fun a δ1 => match resA δ1 a with
  | some d => match truD d with
    | some b => .ok b δ1
    | none => .fail
  | none => .fail
theorem tTest' {t : TE} {m : Mn A} {Q : Bool → Hp → Prop} (k : ∀ Q, tA w m σ H Q → t σ H Q) (h : tT w (mBl m) σ H Q) : tTest t σ H Q := by
  refine k _ ?_
  obtain ⟨Z, δ, F, e, h⟩ := h
  refine ⟨Z, δ, F, e, ?_⟩
  unfold mBl at h
  cases qa : m δ with
  | fail => rw [qa] at h; exact h
  | exc x δ1 => rw [qa] at h; exact h
  | ok a δ1 =>
    rw [qa] at h
    simp only [R.bind_ok] at h
    intro v Z1 H1 F1 O e1 r1 t1 p1
    cases a with
    | nm i => exact h.elim
    | dt d =>
      cases d with
      | bl b => exact ⟨b, r1.1, h Z1 H1 F1 e1 (p1.drop fun a z => .inl z)⟩
      | _ => exact h.elim
theorem truV_of {Z : Zp} {H : Hp} {d : D} {v : V} {O : List Addr} {b : Bool} (r : Rep w.K Z H d v O) (h : truD d = some b) : TruV w.K v H b := by
  cases d with
  | non => rw [r.1]; cases h; rfl
  | bl c => rw [r.1]; cases h; rfl
  | int i => rw [r.1]; cases h; rfl
  | str x =>
    rw [r.1]
    simp only [truD] at h
    split at h
    · cases h; exact ⟨sizeOk_le (by assumption), rfl⟩
    · cases h
  | tup xs =>
    obtain ⟨a, vs, rfl, t, rl⟩ := r
    cases h
    refine .inr (.inl ⟨vs, t.sq, ?_⟩)
    have := rl.length
    cases xs <;> cases vs <;> first | rfl | simp at this
  | lst o xs =>
    cases h
    cases o with
    | false =>
      obtain ⟨a, vs, rfl, t, rl⟩ := r
      refine .inl ⟨vs, .of t.2, ?_⟩
      have := rl.length
      cases xs <;> cases vs <;> first | rfl | simp at this
    | true =>
      obtain ⟨a, vs, O', rfl, t, _, rl⟩ := r
      refine .inl ⟨vs, .of t, ?_⟩
      have := rl.length
      cases xs <;> cases vs <;> first | rfl | simp at this
  | dct o xs => cases h
  | ty n => cases h
  | ptu xs => cases h
  | scr ns =>
    obtain ⟨⟨a, rfl, t⟩, _⟩ := r
    cases h
    refine .inl ⟨_, t.sq, ?_⟩
    cases ns <;> rfl
theorem tTru {t : TE} {m : Mn A} {Q : Bool → Hp → Prop} (k : ∀ Q, tA w m σ H Q → t σ H Q) (h : tT w (mTru m) σ H Q) : t σ H fun x H' => ∃ k, TruV w.K x H' k ∧ Q k H' := by
  refine k _ ?_
  obtain ⟨Z, δ, F, e, h⟩ := h
  refine ⟨Z, δ, F, e, ?_⟩
  unfold mTru at h
  cases qa : m δ with
  | fail => rw [qa] at h; exact h
  | exc x δ1 => rw [qa] at h; exact h
  | ok a δ1 =>
    rw [qa] at h
    simp only [R.bind_ok] at h
    intro v Z1 H1 F1 O e1 r1 t1 p1
    cases ra : resA δ1 a with
    | none => rw [ra] at h; exact h.elim
    | some d =>
      rw [ra] at h
      obtain ⟨P, rp⟩ := e1.opnd r1 ra
      cases hb : truD d with
      | none => simp only [hb] at h
      | some b =>
        simp only [hb] at h
        exact ⟨b, truV_of rp hb, h Z1 H1 F1 e1 (p1.drop fun a z => .inl z)⟩
/-- and, or, not of tests -/
def mAnd (a b : Mn Bool) : Mn Bool := fun δ => (a δ).bind fun c δ1 => if c = true then b δ1 else .ok false δ1
def mOr (a b : Mn Bool) : Mn Bool := fun δ => (a δ).bind fun c δ1 => if c = true then .ok true δ1 else b δ1
def mNot (a : Mn Bool) : Mn Bool := fun δ => (a δ).bind fun c δ1 => .ok (!c) δ1
theorem xOut_on {Z Z1 : Zp} {H H1 : Hp} {F F1 : Fp} {x : Xc} {δ' : Env'} {P : Zp} (h : xOut w σ Z H F x δ') (p : Post Z H (Pf F) Z1 H1 P) (hP : ∀ a, Pf F1 a → P a) : xOut w σ Z1 H1 F1 x δ' :=
  fun cls dd Z' H' F' e' x' p' => h cls dd Z' H' F' e' x' ((p.drop hP).trans p')
theorem tAnd' {a b : Mn Bool} {Q : Bool → Hp → Prop} (h : tT w (mAnd a b) σ H Q) : tAnd (tT w a) (tT w b) σ H Q := by
  obtain ⟨Z, δ, F, e, h⟩ := h
  refine ⟨Z, δ, F, e, ?_⟩
  unfold mAnd at h
  cases qa : a δ with
  | fail => rw [qa] at h; exact h
  | exc x δ1 => rw [qa] at h; exact h
  | ok c δ1 =>
    rw [qa] at h
    simp only [R.bind_ok] at h
    intro Z1 H1 F1 e1 p1
    cases c with
    | true =>
      rw [if_pos rfl]
      rw [if_pos rfl] at h
      refine ⟨Z1, δ1, F1, e1, ?_⟩
      cases qb : b δ1 with
      | fail => rw [qb] at h; exact h
      | exc x δ2 => rw [qb] at h; exact xOut_on h p1 fun _ z => z
      | ok c δ2 => rw [qb] at h; exact fun Z2 H2 F2 e2 p2 => h Z2 H2 F2 e2 (p1.trans p2)
    | false =>
      rw [if_neg Bool.false_ne_true]
      rw [if_neg Bool.false_ne_true] at h
      exact h Z1 H1 F1 e1 p1
theorem tOr' {a b : Mn Bool} {Q : Bool → Hp → Prop} (h : tT w (mOr a b) σ H Q) : tOr (tT w a) (tT w b) σ H Q := by
  obtain ⟨Z, δ, F, e, h⟩ := h
  refine ⟨Z, δ, F, e, ?_⟩
  unfold mOr at h
  cases qa : a δ with
  | fail => rw [qa] at h; exact h
  | exc x δ1 => rw [qa] at h; exact h
  | ok c δ1 =>
    rw [qa] at h
    simp only [R.bind_ok] at h
    intro Z1 H1 F1 e1 p1
    cases c with
    | false =>
      rw [if_neg Bool.false_ne_true]
      rw [if_neg Bool.false_ne_true] at h
      refine ⟨Z1, δ1, F1, e1, ?_⟩
      cases qb : b δ1 with
      | fail => rw [qb] at h; exact h
      | exc x δ2 => rw [qb] at h; exact xOut_on h p1 fun _ z => z
      | ok c δ2 => rw [qb] at h; exact fun Z2 H2 F2 e2 p2 => h Z2 H2 F2 e2 (p1.trans p2)
    | true =>
      rw [if_pos rfl]
      rw [if_pos rfl] at h
      exact h Z1 H1 F1 e1 p1
theorem tNot' {a : Mn Bool} {Q : Bool → Hp → Prop} (h : tT w (mNot a) σ H Q) : tNot (tT w a) σ H Q := by
  obtain ⟨Z, δ, F, e, h⟩ := h
  refine ⟨Z, δ, F, e, ?_⟩
  unfold mNot at h
  cases qa : a δ with
  | fail => rw [qa] at h; exact h
  | exc x δ1 => rw [qa] at h; exact h
  | ok c δ1 => rw [qa] at h; exact h
/-- .. as values -/
def mAndV (a b : Mn A) : Mn A := fun δ => (mBl a δ).bind fun c δ1 => if c = true then b δ1 else .ok (.dt (.bl false)) δ1
def mOrV (a b : Mn A) : Mn A := fun δ => (mBl a δ).bind fun c δ1 => if c = true then .ok (.dt (.bl true)) δ1 else b δ1
def mNotV (a : Mn A) : Mn A := fun δ => (mBl a δ).bind fun c δ1 => .ok (.dt (.bl !c)) δ1
theorem postNil {Z Z1 : Zp} {H H1 : Hp} {P P1 : Zp} (p : Post Z H P Z1 H1 P1) : Post Z H P Z1 H1 (fun a => P1 a ∨ a ∈ ([] : List Addr)) := p.drop fun a z => z.elim id fun z => by cases z
theorem tAndV' {a b : Mn A} {Q : VK} (h : tA w (mAndV a b) σ H Q) : tAndV (tA w a) (tA w b) σ H Q := by
  obtain ⟨Z, δ, F, e, h⟩ := h
  refine ⟨Z, δ, F, e, ?_⟩
  unfold mAndV mBl at h
  cases qa : a δ with
  | fail => rw [qa] at h; exact h
  | exc x δ1 => rw [qa] at h; exact h
  | ok c δ1 =>
    rw [qa] at h
    simp only [R.bind_ok] at h
    intro v Z1 H1 F1 O e1 r1 t1 p1
    cases c with
    | nm i => exact h.elim
    | dt d =>
      cases d with
      | bl c =>
        simp only [R.bind_ok] at h
        refine ⟨c, r1.1, ?_⟩
        cases c with
        | true =>
          rw [if_pos rfl]
          rw [if_pos rfl] at h
          refine ⟨Z1, δ1, F1, e1, ?_⟩
          cases qb : b δ1 with
          | fail => rw [qb] at h; exact h
          | exc x δ2 => rw [qb] at h; exact xOut_on h p1 fun _ z => .inl z
          | ok c δ2 => rw [qb] at h; exact fun v Z2 H2 F2 O2 e2 r2 t2 p2 => h v Z2 H2 F2 O2 e2 r2 t2 ((p1.drop (P3 := Pf F1) fun a z => .inl z).trans p2)
        | false =>
          rw [if_neg Bool.false_ne_true]
          rw [if_neg Bool.false_ne_true] at h
          exact h _ Z1 H1 F1 [] e1 ⟨rfl, rfl⟩ .nil (postNil (p1.drop fun a z => .inl z))
      | _ => exact h.elim
theorem tOrV' {a b : Mn A} {Q : VK} (h : tA w (mOrV a b) σ H Q) : tOrV (tA w a) (tA w b) σ H Q := by
  obtain ⟨Z, δ, F, e, h⟩ := h
  refine ⟨Z, δ, F, e, ?_⟩
  unfold mOrV mBl at h
  cases qa : a δ with
  | fail => rw [qa] at h; exact h
  | exc x δ1 => rw [qa] at h; exact h
  | ok c δ1 =>
    rw [qa] at h
    simp only [R.bind_ok] at h
    intro v Z1 H1 F1 O e1 r1 t1 p1
    cases c with
    | nm i => exact h.elim
    | dt d =>
      cases d with
      | bl c =>
        simp only [R.bind_ok] at h
        refine ⟨c, r1.1, ?_⟩
        cases c with
        | false =>
          rw [if_neg Bool.false_ne_true]
          rw [if_neg Bool.false_ne_true] at h
          refine ⟨Z1, δ1, F1, e1, ?_⟩
          cases qb : b δ1 with
          | fail => rw [qb] at h; exact h
          | exc x δ2 => rw [qb] at h; exact xOut_on h p1 fun _ z => .inl z
          | ok c δ2 => rw [qb] at h; exact fun v Z2 H2 F2 O2 e2 r2 t2 p2 => h v Z2 H2 F2 O2 e2 r2 t2 ((p1.drop (P3 := Pf F1) fun a z => .inl z).trans p2)
        | true =>
          rw [if_pos rfl]
          rw [if_pos rfl] at h
          exact h _ Z1 H1 F1 [] e1 ⟨rfl, rfl⟩ .nil (postNil (p1.drop fun a z => .inl z))
      | _ => exact h.elim
theorem tNotV' {a : Mn A} {Q : VK} (h : tA w (mNotV a) σ H Q) : tNotV (tA w a) σ H Q := by
  obtain ⟨Z, δ, F, e, h⟩ := h
  refine ⟨Z, δ, F, e, ?_⟩
  unfold mNotV mBl at h
  cases qa : a δ with
  | fail => rw [qa] at h; exact h
  | exc x δ1 => rw [qa] at h; exact h
  | ok c δ1 =>
    rw [qa] at h
    simp only [R.bind_ok] at h
    intro v Z1 H1 F1 O e1 r1 t1 p1
    cases c with
    | nm i => exact h.elim
    | dt d =>
      cases d with
      | bl c =>
        simp only [R.bind_ok] at h
        exact ⟨c, r1.1, h _ Z1 H1 F1 [] e1 ⟨rfl, rfl⟩ .nil (postNil (p1.drop fun a z => .inl z))⟩
      | _ => exact h.elim
/-- a if t else b -/
def mIf (t : Mn Bool) (a b : Mn A) : Mn A := fun δ => (t δ).bind fun c δ1 => if c = true then a δ1 else b δ1
theorem tIf' {t : Mn Bool} {a b : Mn A} {Q : VK} (h : tA w (mIf t a b) σ H Q) : tIf (tT w t) (tA w a) (tA w b) σ H Q := by
  obtain ⟨Z, δ, F, e, h⟩ := h
  refine ⟨Z, δ, F, e, ?_⟩
  unfold mIf at h
  cases qa : t δ with
  | fail => rw [qa] at h; exact h
  | exc x δ1 => rw [qa] at h; exact h
  | ok c δ1 =>
    rw [qa] at h
    simp only [R.bind_ok] at h
    intro Z1 H1 F1 e1 p1
    cases c with
    | true =>
      rw [if_pos rfl]
      rw [if_pos rfl] at h
      refine ⟨Z1, δ1, F1, e1, ?_⟩
      cases qb : a δ1 with
      | fail => rw [qb] at h; exact h
      | exc x δ2 => rw [qb] at h; exact xOut_on h p1 fun _ z => z
      | ok c δ2 => rw [qb] at h; exact fun v Z2 H2 F2 O2 e2 r2 t2 p2 => h v Z2 H2 F2 O2 e2 r2 t2 (p1.trans p2)
    | false =>
      rw [if_neg Bool.false_ne_true]
      rw [if_neg Bool.false_ne_true] at h
      refine ⟨Z1, δ1, F1, e1, ?_⟩
      cases qb : b δ1 with
      | fail => rw [qb] at h; exact h
      | exc x δ2 => rw [qb] at h; exact xOut_on h p1 fun _ z => z
      | ok c δ2 => rw [qb] at h; exact fun v Z2 H2 F2 O2 e2 r2 t2 p2 => h v Z2 H2 F2 O2 e2 r2 t2 (p1.trans p2)
/-- a < b < c -/
def mCh (P P' : D → D → Option D) (ma mb mc : Mn A) : Mn A := fun δ => (ma δ).bind fun a δ1 => (mb δ1).bind fun b δ2 => match resA δ2 a, resA δ2 b with
  | some x, some y => match P x y with
    | some (.bl true) => (mc δ2).bind fun c δ3 => match resA δ3 b, resA δ3 c with
      | some y, some z => ofO (P' y z) δ3
      | _, _ => .fail
    | some (.bl false) => .ok (.dt (.bl false)) δ2
    | _ => .fail
  | _, _ => .fail
theorem tCh' {r r' : R2} {P P' : D → D → Option D} (hp : Pr2 w.K r P) (hp' : Pr2 w.K r' P') {ma mb mc : Mn A} {Q : VK} (h : tA w (mCh P P' ma mb mc) σ H Q) : tChain r r' (tA w ma) (tA w mb) (tA w mc) σ H Q := by
  obtain ⟨Z, δ, F, e, h⟩ := h
  refine ⟨Z, δ, F, e, ?_⟩
  unfold mCh at h
  cases qa : ma δ with
  | fail => rw [qa] at h; exact h
  | exc x δ1 => rw [qa] at h; exact h
  | ok a δ1 =>
    rw [qa] at h
    simp only [R.bind_ok] at h
    intro v1 Z1 H1 F1 O1 e1 r1 t1 p1
    refine ⟨Z1, δ1, F1, e1, ?_⟩
    cases qb : mb δ1 with
    | fail => rw [qb] at h; exact h
    | exc x δ2 => rw [qb] at h; exact xOut_on h p1 fun _ z => .inl z
    | ok b δ2 =>
      rw [qb] at h
      simp only [R.bind_ok] at h
      intro v2 Z2 H2 F2 O2 e2 r2 t2 p2
      have r1' : RepA w.K Z2 H2 σ a v1 O1 := r1.mono (p2.zx e1.zP) (t1.stays p2)
      have p12 := p1.then p2
      cases ra : resA δ2 a with
      | none => rw [ra] at h; exact h.elim
      | some x =>
        cases rb : resA δ2 b with
        | none => rw [ra, rb] at h; exact h.elim
        | some y =>
          rw [ra, rb] at h
          cases hr : P x y with
          | none => simp only [hr] at h
          | some res =>
            refine hp Z2 H2 x y v1 v2 res _ (e2.opnd r1' ra) (e2.opnd r2 rb) e2.zt hr fun v Z3 H3 O r3 f3 => ?_
            simp only [hr] at h
            cases res with
            | bl c =>
              refine ⟨c, r3.1, ?_⟩
              have eO : O = [] := r3.2
              have e3 := f3.keep e2
              have p3 : Post Z H (Pf F) Z3 H3 (Pf F2) := ((p12.drop (P3 := Pf F2) fun a z => .inl (.inl z)).trans (f3.po.mono (P' := Pf F2) (P1' := Pf F2) (fun _ z => z.elim) fun a z => .inr z))
              cases c with
              | false =>
                rw [if_neg Bool.false_ne_true]
                exact h _ Z3 H3 F2 [] e3 ⟨rfl, rfl⟩ .nil (postNil p3)
              | true =>
                rw [if_pos rfl]
                refine ⟨Z3, δ2, F2, e3, ?_⟩
                cases qc : mc δ2 with
                | fail => rw [qc] at h; exact h
                | exc x δ3 => rw [qc] at h; exact xOut_on h p3 fun _ z => z
                | ok c δ3 =>
                  rw [qc] at h
                  simp only [R.bind_ok] at h
                  intro v3 Z4 H4 F4 O4 e4 r4 t4 p4
                  have r2' : RepA w.K Z3 H3 σ b v2 O2 := r2.mono f3.zx fun a m o q => f3.po.kp a o q fun z => z
                  have t2' : Tmp Z3 F2 O2 := t2.on r2.trk (f3.po.mono (P' := Pf F2) (P1' := Pf F2) (fun _ z => z.elim) fun a z => .inr z) fun i a m => ⟨i, m⟩
                  have r2'' : RepA w.K Z4 H4 σ b v2 O2 := r2'.mono (p4.zx e3.zP) (t2'.stays p4)
                  cases rb' : resA δ3 b with
                  | none => rw [rb'] at h; exact h.elim
                  | some y' =>
                    cases rc : resA δ3 c with
                    | none => rw [rb', rc] at h; exact h.elim
                    | some z' =>
                      rw [rb', rc] at h
                      cases hr' : P' y' z' with
                      | none => simp only [hr', ofO] at h
                      | some res' =>
                        simp only [hr', ofO] at h
                        exact hp' Z4 H4 y' z' v2 v3 res' Q (e4.opnd r2'' rb') (e4.opnd r4 rc) e4.zt hr' fun v Z5 H5 O5 r5 f5 => fin_made h e4 (p3.trans p4) (fun a z => .inl z) r5 f5
            | _ => exact h.elim
end
end Yv

set_option Elab.async false
set_option linter.all false
set_option maxRecDepth 100000
set_option maxHeartbeats 4000000
/-! I5: targets, what is walked, comprehensions -/
namespace Yv
open PySem L2

/-! ### targets -/
inductive Tg where
  | nm (i : Nat)
  | tp (ts : List Tg)
/- P: the slots that may not be stored -/
mutual
def tgt (P : List Nat) : Tg → D → Env' → Option Env'
  | .nm i, d, δ => if i < δ.length ∧ i ∉ P then some (δ.set i (some d)) else none
  | .tp ts, .tup ds, δ => tgtL P ts ds δ
  | .tp ts, .ptu ds, δ => tgtL P ts ds δ
  | .tp _, _, _ => none
def tgtL (P : List Nat) : List Tg → List D → Env' → Option Env'
  | [], [], δ => some δ
  | t :: ts, d :: ds, δ => match tgt P t d δ with
    | some δ1 => tgtL P ts ds δ1
    | none => none
  | _, _, _ => none
end
def Kept (P : List Nat) (σ σ' : St) : Prop := ∀ i ∈ P, σ'[i]? = σ[i]?
theorem Kept.refl {P : List Nat} {σ : St} : Kept P σ σ := fun _ _ => rfl
theorem Kept.trans {P : List Nat} {σ σ1 σ2 : St} (a : Kept P σ σ1) (b : Kept P σ1 σ2) : Kept P σ σ2 := fun i h => (b i h).trans (a i h)
/-- behind a target's store: the heap as it was -/
def gOut (w : Wc) (P : List Nat) (σ : St) (Z : Zp) (H : Hp) (F : Fp) (O : List Addr) (Q : St → Hp → Prop) (δ' : Env') : Prop :=
  ∀ σ' F', ER w.K Z H δ' σ' F' → (∀ a, Pf F' a → Pf F a ∨ a ∈ O) → Kept P σ σ' → Q σ' H
def tG (w : Wc) (P : List Nat) (t : Tg) : TG := fun v σ H Q => ∃ Z δ F d O, ER w.K Z H δ σ F ∧ Rep w.K Z H d v O ∧ Tmp Z F O ∧ match tgt P t d δ with
  | some δ' => gOut w P σ Z H F O Q δ'
  | none => False
def tGs (w : Wc) (P : List Nat) (ts : List Tg) : TGs := fun vs σ H Q => ∃ Z δ F ds O, ER w.K Z H δ σ F ∧ RepL w.K Z H ds vs O ∧ Tmp Z F O ∧ match tgtL P ts ds δ with
  | some δ' => gOut w P σ Z H F O Q δ'
  | none => False
theorem Tmp.sub {Z : Zp} {F : Fp} {O O1 : List Addr} (t : Tmp Z F O) (nd : O1.Nodup) (h : ∀ a ∈ O1, a ∈ O) : Tmp Z F O1 := ⟨nd, fun a m => t.nz a (h a m), fun a m => t.dj a (h a m)⟩
theorem Tmp.left {Z : Zp} {F : Fp} {O1 O2 : List Addr} (t : Tmp Z F (O1 ++ O2)) : Tmp Z F O1 := t.sub (List.nodup_append.mp t.nd).1 fun a m => List.mem_append_left _ m
theorem Tmp.right {Z : Zp} {F : Fp} {O1 O2 : List Addr} (t : Tmp Z F (O1 ++ O2)) : Tmp Z F O2 := t.sub (List.nodup_append.mp t.nd).2.1 fun a m => List.mem_append_right _ m
section
variable {w : Wc} {P : List Nat} {σ : St} {H : Hp} {Z : Zp} {δ : Env'} {F : Fp}
/-- a slot stored -/
theorem ER.store (e : ER w.K Z H δ σ F) {i : Nat} (hi : i < δ.length) {d : D} {v : V} {O : List Addr} (r : Rep w.K Z H d v O) (t : Tmp Z F O) : ER w.K Z H (δ.set i (some d)) (σ.set i (some v)) (fun j => if j = i then O else F j) where
  len := by rw [List.length_set, List.length_set, e.len]
  rep := fun j d' q => by
    by_cases hj : j = i
    · subst hj
      rw [List.getElem?_set_self hi] at q; cases q
      exact ⟨v, by rw [List.getElem?_set_self (by rw [← e.len]; exact hi)], by rw [if_pos rfl]; exact r⟩
    · rw [List.getElem?_set_ne (Ne.symm hj)] at q
      obtain ⟨v', e2, r'⟩ := e.rep j d' q
      exact ⟨v', by rw [List.getElem?_set_ne (Ne.symm hj)]; exact e2, by rw [if_neg hj]; exact r'⟩
  emp := fun j q => by
    by_cases hj : j = i
    · subst hj
      exact absurd (List.getElem?_set_self hi) (q d)
    · rw [if_neg hj]
      exact e.emp j fun d' q' => q d' (by rw [List.getElem?_set_ne (Ne.symm hj)]; exact q')
  nd := fun j => by
    by_cases hj : j = i
    · rw [if_pos hj]; exact t.nd
    · rw [if_neg hj]; exact e.nd j
  dj := fun j k a m1 m2 => by
    by_cases hj : j = i
    · rw [if_pos hj] at m1
      by_cases hk : k = i
      · rw [hj, hk]
      · rw [if_neg hk] at m2
        exact absurd m2 (t.dj a m1 k)
    · rw [if_neg hj] at m1
      by_cases hk : k = i
      · rw [if_pos hk] at m2
        exact absurd m1 (t.dj a m2 j)
      · rw [if_neg hk] at m2
        exact e.dj j k a m1 m2
  nz := fun j a m => by
    by_cases hj : j = i
    · rw [if_pos hj] at m; exact t.nz a m
    · rw [if_neg hj] at m; exact e.nz j a m
  zt := e.zt
theorem Pf_store {i : Nat} {O : List Addr} {a : Addr} (h : Pf (fun j => if j = i then O else F j) a) : Pf F a ∨ a ∈ O := by
  obtain ⟨j, m⟩ := h
  have m : a ∈ (if j = i then O else F j) := m
  by_cases hj : j = i
  · rw [if_pos hj] at m; exact .inr m
  · rw [if_neg hj] at m; exact .inl ⟨j, m⟩
theorem kept_set {i : Nat} {v : Option V} (h : i ∉ P) : Kept P σ (σ.set i v) := fun j hj => List.getElem?_set_ne (fun e => h (by rw [e]; exact hj))
theorem tG_name {i : Nat} {v : V} {Q : St → Hp → Prop} (h : tG w P (.nm i) v σ H Q) : gName i v σ H Q := by
  obtain ⟨Z, δ, F, d, O, e, r, t, h⟩ := h
  simp only [tgt] at h
  by_cases hi : i < δ.length ∧ i ∉ P
  · rw [if_pos hi] at h
    exact h _ _ (e.store hi.1 r t) (fun a z => Pf_store z) (kept_set hi.2)
  · rw [if_neg hi] at h; exact h.elim
theorem tG_tup {ts : List Tg} {v : V} {Q : St → Hp → Prop} {n : Nat} {g : TGs} (hg : ∀ vs σ Q, tGs w P ts vs σ H Q → g vs σ H Q) (hn : ts.length = n) (h : tG w P (.tp ts) v σ H Q) : gTup w.K n g v σ H Q := by
  obtain ⟨Z, δ, F, d, O, e, r, t, h⟩ := h
  have core : ∀ ds a vs, SqT w.K H a vs → RepL w.K Z H ds vs O → (match tgtL P ts ds δ with | some δ' => gOut w P σ Z H F O Q δ' | none => False) → gTup w.K n g (.ref a) σ H Q := by
    intro ds a vs ta rl h
    refine ⟨a, vs, rfl, ta, ?_, hg vs σ Q ⟨Z, δ, F, ds, O, e, rl, t, h⟩⟩
    rw [← rl.length, ← hn]
    clear hg rl ta t e r
    suffices ∀ (ts : List Tg) (ds : List D) (δ δ' : Env'), tgtL P ts ds δ = some δ' → ds.length = ts.length by
      cases q : tgtL P ts ds δ with
      | none => rw [q] at h; exact h.elim
      | some δ' => exact this ts ds δ δ' q
    intro ts
    induction ts with
    | nil => intro ds δ δ' q; cases ds with
      | nil => rfl
      | cons _ _ => simp [tgtL] at q
    | cons t ts ih => intro ds δ δ' q; cases ds with
      | nil => simp [tgtL] at q
      | cons d ds =>
        simp only [tgtL] at q
        cases q2 : tgt P t d δ with
        | none => rw [q2] at q; cases q
        | some δ1 => rw [q2] at q; rw [List.length_cons, List.length_cons, ih ds δ1 δ' q]
  cases d with
  | tup ds => obtain ⟨a, vs, rfl, ta, rl⟩ := r; simp only [tgt] at h; exact core ds a vs ta.sq rl h
  | ptu ds => obtain ⟨a, vs, rfl, ta, rl⟩ := r; simp only [tgt] at h; exact core ds a vs (.of ta.2) rl h
  | _ => simp only [tgt] at h
theorem tGs_nil {vs : List V} {Q : St → Hp → Prop} (h : tGs w P [] vs σ H Q) : gNil vs σ H Q := by
  obtain ⟨Z, δ, F, ds, O, e, r, t, h⟩ := h
  cases ds with
  | nil => exact ⟨r.1, h σ F e (fun a z => .inl z) .refl⟩
  | cons d ds => simp only [tgtL] at h
theorem tGs_cons {t : Tg} {ts : List Tg} {vs : List V} {Q : St → Hp → Prop} (h : tGs w P (t :: ts) vs σ H Q) : gCons (tG w P t) (tGs w P ts) vs σ H Q := by
  obtain ⟨Z, δ, F, ds, O, e, r, tm, h⟩ := h
  cases ds with
  | nil => simp only [tgtL] at h
  | cons d ds =>
    obtain ⟨v, ws, O1, O2, rfl, rfl, r1, r2⟩ := r
    refine ⟨v, ws, rfl, Z, δ, F, d, O1, e, r1, tm.left, ?_⟩
    simp only [tgtL] at h
    cases q : tgt P t d δ with
    | none => rw [q] at h; exact h.elim
    | some δ1 =>
      rw [q] at h
      intro σ1 F1 e1 s1 k1
      refine ⟨Z, δ1, F1, ds, O2, e1, r2, ⟨tm.right.nd, tm.right.nz, fun a m i mi => ?_⟩, ?_⟩
      · rcases s1 a ⟨i, mi⟩ with ⟨j, z⟩ | z
        · exact tm.right.dj a m j z
        · exact (List.nodup_append.mp tm.nd).2.2 a z a m rfl
      · have h : (match tgtL P ts ds δ1 with | some δ' => gOut w P σ Z H F (O1 ++ O2) Q δ' | none => False) := h
        cases q2 : tgtL P ts ds δ1 with
        | none => rw [q2] at h; exact h.elim
        | some δ2 =>
          rw [q2] at h
          intro σ2 F2 e2 s2 k2
          exact h σ2 F2 e2 (fun a z => (s2 a z).elim (fun z => (s1 a z).elim .inl fun z => .inr (List.mem_append_left _ z)) fun z => .inr (List.mem_append_right _ z)) (k1.trans k2)
end

/-! ### what is walked -/
structure ItOk (K : PySem.W.Frag) (J : It) (ds : List D) (Z : Zp) (H : Hp) : Prop where
  go : ∀ Z2 H2, Zx Z H Z2 H2 → ∀ i, i < ds.length → J.go i H2
  stop : ∀ Z2 H2, Zx Z H Z2 H2 → J.stop ds.length H2
  yld : ∀ Z2 H2, Zx Z H Z2 H2 → (∀ a, Z2 a → ∃ o, H2 a = some o) → ∀ i d, ds[i]? = some d → ∀ x H3, J.yld i H2 x H3 → ∃ Z3, Fresh Z2 H2 Z3 H3 [] ∧ Rep K Z3 H3 d x []
def tI (w : Wc) (m : Mn (List D)) : TI := fun σ H R => ∃ Z δ F, ER w.K Z H δ σ F ∧ match m δ with
  | .ok ds δ' => ∀ J Z' H' F', ER w.K Z' H' δ' σ F' → Post Z H (Pf F) Z' H' (Pf F') → ItOk w.K J ds Z' H' → R J H'
  | .exc x δ' => xOut w σ Z H F x δ'
  | .fail => False
theorem Zx.trans {Z Z1 Z2 : Zp} {H H1 H2 : Hp} (a : Zx Z H Z1 H1) (b : Zx Z1 H1 Z2 H2) : Zx Z H Z2 H2 := ⟨fun x h => b.zm x (a.zm x h), fun x o z h => b.kp x o (a.zm x z) (a.kp x o z h)⟩
section
variable {K : PySem.W.Frag} {Z : Zp} {H : Hp} {a : Addr} {vs : List V} {ds : List D} {O : List Addr}
theorem itOk_list (p : D.pureL ds = true) (t : (Z a ∧ H a = some (.lst vs)) ∨ LstAt K Z H a vs) (r : RepL K Z H ds vs O) : ItOk K (Itl K a) ds Z H where
  go := fun Z2 H2 x i hi => by
    have hi' : i < vs.length := by rw [← r.length]; exact hi
    exact ⟨vs, vs[i], (LstAt.mono x (t.elim (fun z => .inl ⟨z.1, .inl z.2⟩) id)).sq, by simp [hi']⟩
  stop := fun Z2 H2 x => ⟨vs, (LstAt.mono x (t.elim (fun z => .inl ⟨z.1, .inl z.2⟩) id)).sq, by rw [r.length]; exact Nat.le_refl _⟩
  yld := fun Z2 H2 x zt i d e y H3 ⟨eH, q⟩ => by
    subst eH
    exact ⟨Z2, Fresh.refl zt, ((r.item p e (q vs (LstAt.mono x (t.elim (fun z => .inl ⟨z.1, .inl z.2⟩) id)).sq)).mono x fun _ m => by cases m)⟩
theorem itOk_tup (p : D.pureL ds = true) (t : TupAt K Z H a vs) (r : RepL K Z H ds vs O) : ItOk K (Itt K a) ds Z H where
  go := fun Z2 H2 x i hi => by
    have hi' : i < vs.length := by rw [← r.length]; exact hi
    exact ⟨vs, vs[i], (t.mono x).sq, by simp [hi']⟩
  stop := fun Z2 H2 x => ⟨vs, (t.mono x).sq, by rw [r.length]; exact Nat.le_refl _⟩
  yld := fun Z2 H2 x zt i d e y H3 ⟨eH, q⟩ => by
    subst eH
    exact ⟨Z2, Fresh.refl zt, ((r.item p e (q vs (t.mono x).sq)).mono x fun _ m => by cases m)⟩
def intsD (lo : Int) (n : Nat) : List D := (List.range n).map fun i => D.int (lo + (i : Nat))
theorem intsD_get {lo : Int} {n i : Nat} {d : D} (h : (intsD lo n)[i]? = some d) : d = .int (lo + (i : Nat)) := by
  unfold intsD at h
  rw [List.getElem?_map] at h
  cases q : (List.range n)[i]? with
  | none => rw [q] at h; cases h
  | some j =>
    rw [q] at h; cases h
    have : j = i := by
      obtain ⟨hi, e⟩ := List.getElem?_eq_some_iff.mp q
      simpa using e.symm
    rw [this]
theorem intsD_length (lo : Int) (n : Nat) : (intsD lo n).length = n := by simp [intsD]
theorem pureL_intsD (lo : Int) (n : Nat) : D.pureL (intsD lo n) = true := pureL_iff.mpr fun d m => by
  obtain ⟨i, _, rfl⟩ := List.mem_map.mp m
  rfl
theorem itOk_range {lo : Int} {n : Nat} : ItOk K (Itr lo n) (intsD lo n) Z H where
  go := fun Z2 H2 x i hi => by rw [intsD_length] at hi; exact hi
  stop := fun Z2 H2 x => by rw [intsD_length]; exact Nat.le_refl _
  yld := fun Z2 H2 x zt i d e y H3 ⟨eH, q⟩ => by
    subst eH
    rw [intsD_get e, q]
    exact ⟨Z2, Fresh.refl zt, rfl, rfl⟩
/-- pairs that are made at each turn -/
theorem itOk_pair {J : It} {es : List D} (hes : D.pureL es = true) (hds : D.pureL ds = true) {xs ys : Nat → Option V} (go : ∀ Z2 H2, Zx Z H Z2 H2 → ∀ i, i < min ds.length es.length → J.go i H2) (stop : ∀ Z2 H2, Zx Z H Z2 H2 → J.stop (min ds.length es.length) H2)
    (yld : ∀ Z2 H2, Zx Z H Z2 H2 → ∀ i x H3, i < min ds.length es.length → J.yld i H2 x H3 → YPair xs ys i H2 x H3) (hx : ∀ i d, ds[i]? = some d → ∀ v, xs i = some v → Rep K Z H d v []) (hy : ∀ i d, es[i]? = some d → ∀ v, ys i = some v → Rep K Z H d v []) :
    ItOk K J ((ds.zip es).map fun p => D.ptu [p.1, p.2]) Z H where
  go := fun Z2 H2 x i hi => go Z2 H2 x i (by simpa using hi)
  stop := fun Z2 H2 x => by simpa using stop Z2 H2 x
  yld := fun Z2 H2 x zt i d e y H3 hy3 => by
    have hi : i < min ds.length es.length := by have := (List.getElem?_eq_some_iff.mp e).1; simpa using this
    obtain ⟨T, u, v, rfl, hT, rfl, e1, e2⟩ := yld Z2 H2 x i y H3 hi hy3
    refine ⟨_, Fresh.tup zt hT, ?_⟩
    have hd : i < ds.length := by omega
    have he : i < es.length := by omega
    have ed : d = .ptu [ds[i], es[i]] := by
      rw [List.getElem?_map, List.getElem?_eq_getElem (by simpa using hi), List.getElem_zip] at e
      simpa using e.symm
    subst ed
    have zx : Zx Z H (fun a => Z2 a ∨ a = T) (upd H2 T (.tup [u, v])) := x.trans ⟨fun _ z => .inl z, fun a o _ q => by rw [upd_ne (ne_of_none q hT)]; exact q⟩
    have r1 : Rep K (fun a => Z2 a ∨ a = T) (upd H2 T (.tup [u, v])) ds[i] u [] := (hx i ds[i] (by simp [hd]) u e1).mono zx (fun _ m => by cases m)
    have r2 : Rep K (fun a => Z2 a ∨ a = T) (upd H2 T (.tup [u, v])) es[i] v [] := (hy i es[i] (by simp [he]) v e2).mono zx (fun _ m => by cases m)
    exact ⟨T, [u, v], rfl, ⟨.inr rfl, upd_same⟩, u, [v], [], [], rfl, rfl, r1, v, [], [], [], rfl, rfl, r2, rfl, rfl⟩
end
end Yv

set_option Elab.async false
set_option linter.all false
set_option maxRecDepth 100000
set_option maxHeartbeats 4000000
/-! I6: list comprehensions -/
namespace Yv
open PySem L2

def wipeD (δ : Env') : List Nat → Env'
  | [] => δ
  | v :: vs => (wipeD δ vs).set v none
def backD (δ δ' : Env') : List Nat → Env'
  | [] => δ'
  | v :: vs => (backD δ δ' vs).set v (δ[v]?).join
def others (n : Nat) (vs : List Nat) : List Nat := (List.range n).filter fun i => !vs.contains i
def vsOk (δ : Env') (vs : List Nat) : Bool := vs.all fun v => match δ[v]? with
  | some (some d) => d.pure
  | some none => true
  | none => false
def lcStep (t : Tg) (tt : Mn Bool) (te : Mn A) (vs : List Nat) (d : D) (δ : Env') : R (Option D) := match tgt (others δ.length vs) t d (wipeD δ vs) with
  | none => .fail
  | some δ1 => (tt δ1).bind fun b δ2 => if b = true then (mVal te δ2).bind fun y δ3 => .ok (some y) (backD δ δ3 vs) else .ok none (backD δ δ2 vs)
def lcRun (t : Tg) (tt : Mn Bool) (te : Mn A) (vs : List Nat) : List D → Env' → List D → R (List D)
  | [], δ, acc => .ok acc δ
  | d :: ds, δ, acc => match lcStep t tt te vs d δ with
    | .ok (some y) δ' => if sizeOk acc.length then lcRun t tt te vs ds δ' (acc ++ [y]) else .fail
    | .ok none δ' => lcRun t tt te vs ds δ' acc
    | _ => .fail
def mLc (mi : Mn (List D)) (t : Tg) (tt : Mn Bool) (te : Mn A) (vs : List Nat) : Mn A := fun δ => (mi δ).bind fun ds δ1 =>
  if vsOk δ1 vs then (lcRun t tt te vs ds δ1 []).bind fun ys δ2 => .ok (.dt (.lst true ys)) δ2 else .fail

theorem wipeD_length (δ : Env') : ∀ vs, (wipeD δ vs).length = δ.length
  | [] => rfl
  | v :: vs => by unfold wipeD; rw [List.length_set, wipeD_length δ vs]
theorem backD_length (δ δ' : Env') : ∀ vs, (backD δ δ' vs).length = δ'.length
  | [] => rfl
  | v :: vs => by unfold backD; rw [List.length_set, backD_length δ δ' vs]
theorem backD_in (δ δ' : Env') : ∀ (vs : List Nat) (j : Nat), j ∈ vs → j < δ'.length → (backD δ δ' vs)[j]? = some (δ[j]?).join
  | v :: vs, j, h, hl => by
    unfold backD
    by_cases e : v = j
    · subst e
      rw [List.getElem?_set_self (by rw [backD_length]; exact hl)]
    · rw [List.getElem?_set_ne e]
      exact backD_in δ δ' vs j ((List.mem_cons.mp h).elim (fun q => absurd q.symm e) id) hl
theorem backD_out (δ δ' : Env') : ∀ (vs : List Nat) (j : Nat), j ∉ vs → (backD δ δ' vs)[j]? = δ'[j]?
  | [], _, _ => rfl
  | v :: vs, j, h => by
    unfold backD
    rw [List.getElem?_set_ne (fun e => h (by rw [e]; simp))]
    exact backD_out δ δ' vs j fun m => h (List.mem_cons_of_mem _ m)
theorem wipe_out (σ : St) : ∀ (vs : List Nat) (j : Nat), j ∉ vs → (wipe σ vs)[j]? = σ[j]?
  | [], _, _ => rfl
  | v :: vs, j, h => by
    unfold wipe
    rw [List.getElem?_set_ne (fun e => h (by rw [e]; simp))]
    exact wipe_out σ vs j fun m => h (List.mem_cons_of_mem _ m)
theorem wipe_eq {σ σ2 : St} {vs : List Nat} (hl : σ2.length = σ.length) (h : ∀ j, j ∉ vs → σ2[j]? = σ[j]?) : wipe σ2 vs = wipe σ vs := by
  have in_ : ∀ (σ : St) (vs : List Nat) (j : Nat), j ∈ vs → j < σ.length → (wipe σ vs)[j]? = some none := by
    intro σ vs
    induction vs with
    | nil => intro j m; cases m
    | cons v vs ih =>
      intro j m hj
      unfold wipe
      by_cases e : v = j
      · subst e; rw [List.getElem?_set_self (by rw [wipe_length]; exact hj)]
      · rw [List.getElem?_set_ne e]
        exact ih j ((List.mem_cons.mp m).elim (fun q => absurd q.symm e) id) hj
  refine List.ext_getElem? fun j => ?_
  by_cases m : j ∈ vs
  · by_cases hj : j < σ.length
    · rw [in_ σ vs j m hj, in_ σ2 vs j m (by rw [hl]; exact hj)]
    · rw [List.getElem?_eq_none (by rw [wipe_length]; omega), List.getElem?_eq_none (by rw [wipe_length]; omega)]
  · rw [wipe_out σ2 vs j m, wipe_out σ vs j m]
    exact h j m
section
variable {w : Wc} {σ : St} {H : Hp} {Z : Zp} {δ : Env'} {F : Fp}
theorem ER.clear (e : ER w.K Z H δ σ F) {i : Nat} (h : F i = []) : ER w.K Z H (δ.set i none) (σ.set i none) F where
  len := by rw [List.length_set, List.length_set, e.len]
  rep := fun j d q => by
    by_cases hj : i = j
    · subst hj
      by_cases hi : i < δ.length
      · rw [List.getElem?_set_self hi] at q; cases q
      · rw [List.getElem?_eq_none (by rw [List.length_set]; omega)] at q; cases q
    · rw [List.getElem?_set_ne hj] at q
      obtain ⟨v, e1, r⟩ := e.rep j d q
      exact ⟨v, by rw [List.getElem?_set_ne hj]; exact e1, r⟩
  emp := fun j q => by
    by_cases hj : i = j
    · rw [← hj]; exact h
    · exact e.emp j fun d q' => q d (by rw [List.getElem?_set_ne hj]; exact q')
  nd := e.nd
  dj := e.dj
  nz := e.nz
  zt := e.zt
theorem ER.wipe (e : ER w.K Z H δ σ F) : ∀ {vs : List Nat}, (∀ v ∈ vs, F v = []) → ER w.K Z H (wipeD δ vs) (wipe σ vs) F
  | [], _ => e
  | v :: vs, h => (ER.wipe e fun x m => h x (List.mem_cons_of_mem _ m)).clear (h v (by simp))
theorem ER.vs (e : ER w.K Z H δ σ F) {vs : List Nat} (h : vsOk δ vs = true) : (∀ v ∈ vs, F v = []) ∧ (∀ v ∈ vs, v < δ.length) ∧ ∀ v ∈ vs, ∀ d, δ[v]? = some (some d) → ∃ x, σ[v]? = some (some x) ∧ Rep w.K Z H d x [] := by
  have k : ∀ v ∈ vs, (match δ[v]? with | some (some d) => d.pure | some none => true | none => false) = true := fun v m => List.all_eq_true.mp h v m
  refine ⟨fun v m => ?_, fun v m => ?_, fun v m d q => ?_⟩
  · have q := k v m
    cases q1 : δ[v]? with
    | none => exact e.emp v fun d z => by rw [q1] at z; cases z
    | some o =>
      cases o with
      | none => exact e.emp v fun d z => by rw [q1] at z; cases z
      | some d =>
        rw [q1] at q
        obtain ⟨x, _, r⟩ := e.rep v d q1
        exact Rep.pure q r
  · have q := k v m
    cases q1 : δ[v]? with
    | none => rw [q1] at q; cases q
    | some o => exact (List.getElem?_eq_some_iff.mp q1).1
  · have q1 := k v m
    rw [q] at q1
    obtain ⟨x, e1, r⟩ := e.rep v d q
    exact ⟨x, e1, r.pureO q1⟩
/-- the block's end: its own names as they stood outside -/
theorem ER.back {σ2 : St} {δ2 : Env'} (e : ER w.K Z H δ2 σ2 F) {vs : List Nat} (hl : σ2.length = σ.length) (ho : ∀ j, j ∉ vs → σ2[j]? = σ[j]?) (hd : ∀ v ∈ vs, ∀ d, δ[v]? = some (some d) → ∃ x, σ[v]? = some (some x) ∧ Rep w.K Z H d x []) :
    ER w.K Z H (backD δ δ2 vs) σ (fun j => if j ∈ vs then [] else F j) where
  len := by rw [backD_length, e.len, hl]
  rep := fun j d q => by
    by_cases m : j ∈ vs
    · by_cases hj : j < δ2.length
      · rw [backD_in δ δ2 vs j m hj] at q
        obtain ⟨x, e1, r⟩ := hd j m d (join_some (Option.some.inj q))
        exact ⟨x, e1, by rw [if_pos m]; exact r⟩
      · rw [List.getElem?_eq_none (by rw [backD_length]; omega)] at q; cases q
    · rw [backD_out δ δ2 vs j m] at q
      obtain ⟨x, e1, r⟩ := e.rep j d q
      exact ⟨x, by rw [← ho j m]; exact e1, by rw [if_neg m]; exact r⟩
  emp := fun j q => by
    by_cases m : j ∈ vs
    · rw [if_pos m]
    · rw [if_neg m]
      exact e.emp j fun d q' => q d (by rw [backD_out δ δ2 vs j m]; exact q')
  nd := fun j => by
    by_cases m : j ∈ vs
    · rw [if_pos m]; exact List.nodup_nil
    · rw [if_neg m]; exact e.nd j
  dj := fun j k a m1 m2 => by
    by_cases m : j ∈ vs
    · rw [if_pos m] at m1; cases m1
    · by_cases m' : k ∈ vs
      · rw [if_pos m'] at m2; cases m2
      · rw [if_neg m] at m1; rw [if_neg m'] at m2; exact e.dj j k a m1 m2
  nz := fun j a m1 => by
    by_cases m : j ∈ vs
    · rw [if_pos m] at m1; cases m1
    · rw [if_neg m] at m1; exact e.nz j a m1
  zt := e.zt
end
theorem Pf_back {F : Fp} {vs : List Nat} {a : Addr} (h : Pf (fun j => if j ∈ vs then [] else F j) a) : Pf F a := by
  obtain ⟨j, m⟩ := h
  have m : a ∈ (if j ∈ vs then [] else F j) := m
  by_cases q : j ∈ vs
  · rw [if_pos q] at m; cases m
  · rw [if_neg q] at m; exact ⟨j, m⟩
/-- no exception leaves -/
abbrev Wc.nox (w : Wc) : Wc := { w with W := fun _ _ _ _ => False }
/-- Post with temporaries, then on with the environment alone, both kept -/
theorem Post.thenO {Z Z1 Z2 : Zp} {H H1 H2 : Hp} {F F1 F2 : Fp} {O : List Addr} (p : Post Z H (Pf F) Z1 H1 (fun a => Pf F1 a ∨ a ∈ O)) (q : Post Z1 H1 (Pf F1) Z2 H2 (Pf F2)) : Post Z H (Pf F) Z2 H2 (fun a => Pf F2 a ∨ a ∈ O) := p.then q

section
variable {w : Wc} {σ : St} {H : Hp}
theorem tLc' {mi : Mn (List D)} {t : Tg} {tt : Mn Bool} {te : Mn A} {vs : List Nat} {wi : TI} {g : TG} {rt : TT} {re : TE} (hi : ∀ σ H R, tI w mi σ H R → wi σ H R)
    (hg : ∀ P v σ H Q, tG w.nox P t v σ H Q → g v σ H Q) (ht : ∀ σ H Q, tT w.nox tt σ H Q → rt σ H Q) (he : ∀ σ H Q, tA w.nox te σ H Q → re σ H Q) {Q : VK} (h : tA w (mLc mi t tt te vs) σ H Q) : tLc wi g rt re vs σ H Q := by
  refine hi _ _ _ ?_
  obtain ⟨Z, δ, F, e, h⟩ := h
  refine ⟨Z, δ, F, e, ?_⟩
  unfold mLc at h
  cases qi : mi δ with
  | fail => rw [qi] at h; exact h
  | exc x δ1 => rw [qi] at h; exact h
  | ok ds δ1 =>
    rw [qi] at h
    simp only [R.bind_ok] at h
    intro J Z1 H1 F1 e1 p1 it D hD
    by_cases hvs : vsOk δ1 vs = true
    rotate_left
    · simp only [Bool.not_eq_true] at hvs
      simp only [hvs] at h
      exact h.elim
    simp only [hvs, if_true] at h
    -- what is left to be shown of an outcome
    let Fin : R (List Yv.D) → Prop := fun o => match o with
      | .ok ys δ2 => ∀ v Z' H' F' O, ER w.K Z' H' δ2 σ F' → RepA w.K Z' H' σ (.dt (.lst true ys)) v O → Tmp Z' F' O → Post Z H (Pf F) Z' H' (fun a => Pf F' a ∨ a ∈ O) → Q v H'
      | _ => False
    have fin0 : Fin (lcRun t tt te vs ds δ1 []) := by
      show match lcRun t tt te vs ds δ1 [] with | .ok ys δ2 => _ | _ => False
      cases q : lcRun t tt te vs ds δ1 [] with
      | ok ys δ2 => rw [q] at h; exact h
      | exc x δ2 =>
        exfalso
        clear h Fin
        have : ∀ (ds : List Yv.D) (δ1 : Env') (acc : List Yv.D), lcRun t tt te vs ds δ1 acc ≠ .exc x δ2 := by
          intro ds
          induction ds with
          | nil => intro δ1 acc q; cases q
          | cons d ds ih =>
            intro δ1 acc q
            unfold lcRun at q
            split at q
            · split at q
              · exact ih _ _ q
              · cases q
            · exact ih _ _ q
            · cases q
        exact this _ _ _ q
      | fail => rw [q] at h; exact h
    refine ⟨fun i m H' => m = ds.length - i ∧ i ≤ ds.length ∧ ∃ Z' δ' F' acc vals Oa, ER w.K Z' H' δ' σ F' ∧ H' D = some (.lst vals) ∧ RepL w.K Z' H' acc vals Oa ∧ Tmp Z' F' (D :: Oa) ∧
      Post Z H (Pf F) Z' H' (fun a => Pf F' a ∨ a ∈ D :: Oa) ∧ Zx Z1 H1 Z' H' ∧ vsOk δ' vs = true ∧ Fin (lcRun t tt te vs (ds.drop i) δ' acc), ⟨ds.length, by simp, Nat.zero_le _, Z1, δ1, F1, [], [], [], ?_⟩, ?_⟩
    · have f := Fresh.own (o := HO.lst []) e1.zt hD
      exact ⟨f.keep e1, upd_same, ⟨rfl, rfl⟩, f.tmp e1, (p1.trans (post_own hD)).drop fun a z => z.elim .inl fun z => .inr (by simpa using z), f.zx, hvs, fin0⟩
    · rintro i m H' ⟨rfl, hi, Z', δ', F', acc, vals, Oa, e', hD', rl, tm, po, zx, hv', fin⟩
      by_cases hlt : i < ds.length
      rotate_left
      · have ei : i = ds.length := by omega
        subst ei
        refine .inl ⟨it.stop Z' H' zx, ?_⟩
        rw [List.drop_length] at fin
        exact fin (.ref D) Z' H' F' (D :: Oa) e' ⟨D, vals, Oa, rfl, hD', rfl, rl⟩ tm po
      · refine .inr ⟨it.go Z' H' zx i hlt, fun H'' => (fun i m H' => m = ds.length - i ∧ i ≤ ds.length ∧ ∃ Z' δ' F' acc vals Oa, ER w.K Z' H' δ' σ F' ∧ H' D = some (.lst vals) ∧ RepL w.K Z' H' acc vals Oa ∧ Tmp Z' F' (D :: Oa) ∧
          Post Z H (Pf F) Z' H' (fun a => Pf F' a ∨ a ∈ D :: Oa) ∧ Zx Z1 H1 Z' H' ∧ vsOk δ' vs = true ∧ Fin (lcRun t tt te vs (ds.drop i) δ' acc)) (i + 1) (ds.length - (i + 1)) H'', fun H'' w' => ⟨ds.length - (i + 1), by omega, w'⟩, fun x H2 y => ?_⟩
        obtain ⟨Z2, f2, r2⟩ := it.yld Z' H' zx e'.zt i ds[i] (by simp [hlt]) x H2 y
        have e2 := f2.keep e'
        obtain ⟨hF, hvl, hvd⟩ := e'.vs hv'
        have ew : ER w.K Z2 H2 (wipeD δ' vs) (wipe σ vs) F' := e2.wipe hF
        rw [List.drop_eq_getElem_cons hlt] at fin
        unfold lcRun lcStep at fin
        refine hg (others δ'.length vs) _ _ _ _ ⟨Z2, wipeD δ' vs, F', ds[i], [], ew, r2, .nil, ?_⟩
        cases qt : tgt (others δ'.length vs) t ds[i] (wipeD δ' vs) with
        | none => rw [qt] at fin; exact fin.elim
        | some δa =>
          rw [qt] at fin
          intro σ2 F2 e3 s3 k3
          have hl2 : σ2.length = σ.length := by
            have h1 := e3.len
            have h2 : δa.length = (wipeD δ' vs).length := by
              clear fin k3 s3 h1 e3
              have aux : ∀ (P : List Nat) (n : Nat) (t : Tg), (sizeOf t ≤ n) → ∀ (d : Yv.D) (δ δ2 : Env'), tgt P t d δ = some δ2 → δ2.length = δ.length := by
                intro P n
                induction n with
                | zero => intro t ht; cases t <;> simp at ht <;> omega
                | succ n ih =>
                  intro t ht d δ δ2 q
                  cases t with
                  | nm i =>
                    simp only [tgt] at q
                    split at q
                    · cases q; rw [List.length_set]
                    · cases q
                  | tp ts =>
                    cases d with
                    | tup ds =>
                      simp only [tgt] at q
                      have : ∀ (ts : List Tg), sizeOf ts ≤ n → ∀ (ds : List Yv.D) (δ δ2 : Env'), tgtL P ts ds δ = some δ2 → δ2.length = δ.length := by
                        intro ts
                        induction ts with
                        | nil => intro _ ds δ δ2 q; cases ds with
                          | nil => simp only [tgtL] at q; cases q; rfl
                          | cons _ _ => simp [tgtL] at q
                        | cons t ts ih2 => intro hs ds δ δ2 q; cases ds with
                          | nil => simp [tgtL] at q
                          | cons d ds =>
                            simp only [tgtL] at q
                            simp only [List.cons.sizeOf_spec] at hs
                            cases q2 : tgt P t d δ with
                            | none => rw [q2] at q; cases q
                            | some δ1 =>
                              rw [q2] at q
                              rw [ih2 (by omega) ds δ1 δ2 q, ih t (by omega) d δ δ1 q2]
                      exact this ts (by simp only [Tg.tp.sizeOf_spec] at ht; omega) ds δ δ2 q
                    | ptu ds =>
                      simp only [tgt] at q
                      have : ∀ (ts : List Tg), sizeOf ts ≤ n → ∀ (ds : List Yv.D) (δ δ2 : Env'), tgtL P ts ds δ = some δ2 → δ2.length = δ.length := by
                        intro ts
                        induction ts with
                        | nil => intro _ ds δ δ2 q; cases ds with
                          | nil => simp only [tgtL] at q; cases q; rfl
                          | cons _ _ => simp [tgtL] at q
                        | cons t ts ih2 => intro hs ds δ δ2 q; cases ds with
                          | nil => simp [tgtL] at q
                          | cons d ds =>
                            simp only [tgtL] at q
                            simp only [List.cons.sizeOf_spec] at hs
                            cases q2 : tgt P t d δ with
                            | none => rw [q2] at q; cases q
                            | some δ1 =>
                              rw [q2] at q
                              rw [ih2 (by omega) ds δ1 δ2 q, ih t (by omega) d δ δ1 q2]
                      exact this ts (by simp only [Tg.tp.sizeOf_spec] at ht; omega) ds δ δ2 q
                    | _ => simp [tgt] at q
              exact aux _ _ t (Nat.le_refl _) _ _ _ qt
            have h3 := e'.len
            rw [wipeD_length] at h2
            omega
          have ho : ∀ j, j ∉ vs → σ2[j]? = σ[j]? := fun j hj => by
            by_cases hjl : j < δ'.length
            · rw [k3 j (List.mem_filter.mpr ⟨List.mem_range.mpr hjl, by simp [hj]⟩)]
              exact Yv.wipe_out σ vs j hj
            · rw [List.getElem?_eq_none (by rw [hl2, ← e'.len]; omega), List.getElem?_eq_none (by rw [← e'.len]; omega)]
          refine ⟨Yv.wipe_eq hl2 ho, ht _ _ _ ⟨Z2, δa, F2, e3, ?_⟩⟩
          -- the state ahead of the test: temporaries, Post
          have sub3 : ∀ a, Pf F2 a → Pf F' a := fun a z => (s3 a z).elim id fun z => by cases z
          have pf2 : Post Z' H' (Pf F') Z2 H2 (Pf F2) := (f2.po.mono (P' := Pf F') (P1' := Pf F') (fun _ z => z.elim) fun a z => .inr z).drop sub3
          have rD : Rep w.K Z' H' (.lst true acc) (.ref D) (D :: Oa) := ⟨D, vals, Oa, rfl, hD', rfl, rl⟩
          obtain ⟨tm2, rD2⟩ := tm.keep rD e' pf2
          have po2 := po.then pf2
          have zx2 : Zx Z1 H1 Z2 H2 := zx.trans f2.zx
          cases qtt : tt δa with
          | fail => simp only [qtt, R.bind_fail] at fin; exact fin.elim
          | exc x δ2 => simp only [qtt, R.bind_exc] at fin; exact fin.elim
          | ok b δb =>
            simp only [qtt, R.bind_ok] at fin
            intro Z3 H3 F3 e4 p4
            obtain ⟨tm3, rD3⟩ := tm2.keep rD2 e3 p4
            have po3 := po2.then p4
            have zx3 : Zx Z1 H1 Z3 H3 := zx2.trans (p4.zx e3.zP)
            have hdk : ∀ {Z4 : Zp} {H4 : Hp}, Zx Z' H' Z4 H4 → ∀ v ∈ vs, ∀ d, δ'[v]? = some (some d) → ∃ x, σ[v]? = some (some x) ∧ Rep w.K Z4 H4 d x [] := fun zz v m d q => by
              obtain ⟨x, q1, q2⟩ := hvd v m d q
              exact ⟨x, q1, q2.mono zz fun _ m => by cases m⟩
            have hvback : ∀ (δc : Env'), δc.length = σ2.length → vsOk (backD δ' δc vs) vs = true := fun δc hlc => List.all_eq_true.mpr fun v m => by
              have hv1 := List.all_eq_true.mp hv' v m
              have hlv := hvl v m
              have hlc' : v < δc.length := by rw [hlc, hl2, ← e'.len]; exact hlv
              rw [backD_in δ' δc vs v m hlc']
              cases q : δ'[v]? with
              | none => rw [q] at hv1; cases hv1
              | some o => rw [q] at hv1; exact hv1
            cases b with
            | false =>
              rw [if_neg Bool.false_ne_true]
              simp only [Bool.false_eq_true, if_false] at fin
              have zz := f2.zx.trans (p4.zx e3.zP)
              have eb := e4.back (δ := δ') hl2 ho (hdk zz)
              refine ⟨rfl, hlt, Z3, backD δ' δb vs, _, acc, vals, Oa, eb, ?_, ?_, ?_, ?_, zx3, hvback δb (by rw [e4.len]), fin⟩
              · obtain ⟨a', vs', O', q1, q2, q3, q4⟩ := rD3
                cases q1; cases q3
                have := tm2.stays p4 D (by simp) _ (show H2 D = some (.lst vals) from by
                  obtain ⟨a', vs', O', q1, q2', q3, q4⟩ := rD2
                  cases q1
                  rw [tm.stays pf2 D (by simp) _ hD'])
                exact this
              · obtain ⟨a', vs', O', q1, q2, q3, q4⟩ := rD3
                cases q1; cases q3
                have h2D : H2 D = some (.lst vals) := tm.stays pf2 D (by simp) _ hD'
                have h3D : H3 D = some (.lst vals) := tm2.stays p4 D (by simp) _ h2D
                rw [h3D] at q2; cases q2
                exact q4
              · exact tm3.on (fun a m => rD3.trk a m) (P2 := Pf F3) Post.refl fun i a m => Pf_back ⟨i, m⟩
              · exact po3.drop fun a z => z.elim (fun z => .inl (Pf_back z)) .inr
            | true =>
              rw [if_pos rfl]
              simp only [if_true] at fin
              refine he _ _ _ (tA_val ⟨Z3, δb, F3, e4, ?_⟩)
              cases qe : mVal te δb with
              | fail => simp only [qe, R.bind_fail] at fin; exact fin.elim
              | exc x δ2 => simp only [qe, R.bind_exc] at fin; exact fin.elim
              | ok y δc =>
                simp only [qe, R.bind_ok] at fin
                intro vy Z4 H4 F4 O4 e5 r5 t5 p5
                have p5' : Post Z3 H3 (Pf F3) Z4 H4 (Pf F4) := p5.drop fun a z => .inl z
                obtain ⟨tm4, rD4⟩ := tm3.keep rD3 e4 p5'
                have h2D : H2 D = some (.lst vals) := tm.stays pf2 D (by simp) _ hD'
                have h3D : H3 D = some (.lst vals) := tm2.stays p4 D (by simp) _ h2D
                have h4D : H4 D = some (.lst vals) := tm3.stays p5' D (by simp) _ h3D
                have tmA : Tmp Z4 F4 ((D :: Oa) ++ O4) := tm3.app rD3.trk p5 (fun i a m => .inl ⟨i, m⟩) (fun a m => .inr m) t5
                obtain ⟨a', vs', O', q1, q2, q3, q4⟩ := rD4
                cases q1; cases q3
                rw [h4D] at q2; cases q2
                split at fin
                rotate_left
                · exact fin.elim
                rename_i hsz
                refine ⟨vals, h4D, by rw [← q4.length]; exact sizeOk_lt hsz, rfl, hlt, ?_⟩
                have hDn : D ∉ Oa ++ O4 := by
                  have := tmA.nd
                  rw [List.cons_append] at this
                  exact (List.nodup_cons.mp this).1
                have zx4 : Zx Z1 H1 Z4 H4 := zx3.trans (p5.zx e4.zP)
                have nz4 : ¬ Z4 D := tm4.nz D (by simp)
                have zu : Zx Z4 H4 Z4 (upd H4 D (.lst (vals ++ [vy]))) := ⟨fun _ z => z, fun a o z q => by rw [upd_ne (fun e => nz4 (by rw [← e]; exact z))]; exact q⟩
                have e6 : ER w.K Z4 (upd H4 D (.lst (vals ++ [vy]))) δc σ2 F4 := e5.keep (P := fun a => a = D) (P' := fun _ => False) ⟨fun _ z => z, fun _ z => .inl z, (fun _ z => z.elim), fun a o q n => by rw [upd_ne n]; exact q⟩ (fun a z => by
                  subst z
                  exact ⟨fun ⟨i, m⟩ => tm4.dj a (by simp) i m, nz4⟩) (fun a z => by
                  obtain ⟨o, q⟩ := e5.zt a z
                  exact ⟨o, by rw [upd_ne (fun e => nz4 (by rw [← e]; exact z))]; exact q⟩)
                have zz := (f2.zx.trans (p4.zx e3.zP)).trans ((p5.zx e4.zP).trans zu)
                have eb := e6.back (δ := δ') hl2 ho (hdk zz)
                refine ⟨Z4, backD δ' δc vs, _, acc ++ [y], vals ++ [vy], Oa ++ O4, eb, upd_same, ?_, ?_, ?_, zx4.trans zu, hvback δc (by rw [e5.len]), fin⟩
                · have a1 : RepL w.K Z4 (upd H4 D (.lst (vals ++ [vy]))) acc vals Oa := q4.mono zu fun a m o q => by rw [upd_ne (fun e => hDn (by rw [← e]; exact List.mem_append_left _ m))]; exact q
                  have a2 : Rep w.K Z4 (upd H4 D (.lst (vals ++ [vy]))) y vy O4 := r5.mono zu fun a m o q => by rw [upd_ne (fun e => hDn (by rw [← e]; exact List.mem_append_right _ m))]; exact q
                  have := a1.append (es := [y]) (ws := [vy]) (O2 := O4) ⟨vy, [], O4, [], rfl, by simp, a2, rfl, rfl⟩
                  exact this
                · exact ⟨by have := tmA.nd; rwa [List.cons_append] at this, fun a m => tmA.nz a (by rw [List.cons_append]; exact m), fun a m i mi => tmA.dj a (by rw [List.cons_append]; exact m) i (by
                    have mi : a ∈ (if i ∈ vs then [] else F4 i) := mi
                    by_cases q : i ∈ vs
                    · rw [if_pos q] at mi; cases mi
                    · rw [if_neg q] at mi; exact mi)⟩
                · have p6 := po3.trans (p5.mono (P' := fun a => Pf F3 a ∨ a ∈ D :: Oa) (P1' := fun a => (Pf F4 a ∨ a ∈ O4) ∨ a ∈ D :: Oa) (fun a z => .inl z) fun a z => z.elim .inl fun z => .inr (.inr z))
                  have p7 : Post Z4 H4 (fun a => (Pf F4 a ∨ a ∈ O4) ∨ a ∈ D :: Oa) Z4 (upd H4 D (.lst (vals ++ [vy]))) (fun a => (Pf F4 a ∨ a ∈ O4) ∨ a ∈ D :: Oa) :=
                    ⟨fun _ z => z, fun _ z => .inl z, fun _ z => .inl z, fun a o q n => by rw [upd_ne (fun e => n (.inr (by rw [e]; simp)))]; exact q⟩
                  refine (p6.trans p7).drop fun a z => ?_
                  rcases z with z | z
                  · exact .inl (.inl (Pf_back z))
                  · rcases List.mem_cons.mp z with z | z
                    · exact .inr (by rw [z]; simp)
                    · rcases List.mem_append.mp z with z | z
                      · exact .inr (List.mem_cons_of_mem _ z)
                      · exact .inl (.inr z)
end
end Yv

set_option Elab.async false
set_option linter.all false
set_option maxRecDepth 100000
set_option maxHeartbeats 4000000
/-! I7: statements -/
namespace Yv
open PySem L2

inductive SR where
  | nx (δ : Env')
  | rt (d : D) (δ : Env')
  | bk (δ : Env')
  | ct (δ : Env')
  | exc (x : Xc) (δ : Env')
  | fail
abbrev Ms := Env' → SR
def R.toS {α : Type} : R α → (α → Env' → SR) → SR
  | .ok a δ, f => f a δ
  | .exc x δ, _ => .exc x δ
  | .fail, _ => .fail
@[simp] theorem R.toS_ok {α : Type} (a : α) (δ : Env') (f : α → Env' → SR) : (R.ok a δ).toS f = f a δ := rfl
@[simp] theorem R.toS_exc {α : Type} (x : Xc) (δ : Env') (f : α → Env' → SR) : (R.exc x δ : R α).toS f = .exc x δ := rfl
@[simp] theorem R.toS_fail {α : Type} (f : α → Env' → SR) : (R.fail : R α).toS f = .fail := rfl

/-- what is wanted behind a statement's outcome -/
def sOut (w : Wc) (P : List Nat) (D : Ends) (σ : St) (Z : Zp) (H : Hp) (F : Fp) : SR → Prop
  | .nx δ' => ∀ σ' Z' H' F', ER w.K Z' H' δ' σ' F' → Post Z H (Pf F) Z' H' (Pf F') → Kept P σ σ' → D.nx σ' H'
  | .bk δ' => ∀ σ' Z' H' F', ER w.K Z' H' δ' σ' F' → Post Z H (Pf F) Z' H' (Pf F') → Kept P σ σ' → D.bk σ' H'
  | .ct δ' => ∀ σ' Z' H' F', ER w.K Z' H' δ' σ' F' → Post Z H (Pf F) Z' H' (Pf F') → Kept P σ σ' → D.ct σ' H'
  | .rt d δ' => ∀ v σ' Z' H' F' O, ER w.K Z' H' δ' σ' F' → Rep w.K Z' H' d v O → Tmp Z' F' O → Post Z H (Pf F) Z' H' (fun a => Pf F' a ∨ a ∈ O) → Kept P σ σ' → D.rt v H'
  | .exc x δ' => ∀ cls dd σ' Z' H' F', ER w.K Z' H' δ' σ' F' → XRep w.K w.ca Z' H' x cls dd → Post Z H (Pf F) Z' H' (Pf F') → Kept P σ σ' → w.W cls dd σ' H'
  | .fail => False
def tS (w : Wc) (P : List Nat) (m : Ms) : TS := fun D σ H => ∃ Z δ F, ER w.K Z H δ σ F ∧ sOut w P D σ Z H F (m δ)
section
variable {w : Wc} {P : List Nat} {D : Ends} {σ σ1 : St} {Z Z1 : Zp} {H H1 : Hp} {F F1 : Fp} {δ δ1 : Env'}
theorem sOut_on {o : SR} {P1 : Zp} (h : sOut w P D σ Z H F o) (p : Post Z H (Pf F) Z1 H1 P1) (hP : ∀ a, Pf F1 a → P1 a) (k : Kept P σ σ1) : sOut w P D σ1 Z1 H1 F1 o := by
  have p' := p.drop hP
  cases o with
  | nx δ' => exact fun σ' Z' H' F' e q r => h σ' Z' H' F' e (p'.trans q) (k.trans r)
  | bk δ' => exact fun σ' Z' H' F' e q r => h σ' Z' H' F' e (p'.trans q) (k.trans r)
  | ct δ' => exact fun σ' Z' H' F' e q r => h σ' Z' H' F' e (p'.trans q) (k.trans r)
  | rt d δ' => exact fun v σ' Z' H' F' O e r t q s => h v σ' Z' H' F' O e r t (p'.trans q) (k.trans s)
  | exc x δ' => exact fun cls dd σ' Z' H' F' e x q r => h cls dd σ' Z' H' F' e x (p'.trans q) (k.trans r)
  | fail => exact h
/-! ### small statements -/
def mPass : Ms := fun δ => .nx δ
def mBrk : Ms := fun δ => .bk δ
def mCt : Ms := fun δ => .ct δ
def mFailS : Ms := fun _ => .fail
def mSeq (a b : Ms) : Ms := fun δ => match a δ with
  | .nx δ1 => b δ1
  | o => o
def mDo (m : Mn A) : Ms := fun δ => (m δ).toS fun _ δ1 => .nx δ1
def mRet (m : Mn A) : Ms := fun δ => (mVal m δ).toS fun d δ1 => .rt d δ1
def mRetN : Ms := fun δ => .rt .non δ
def mAsg (P : List Nat) (t : Tg) (m : Mn A) : Ms := fun δ => (mVal m δ).toS fun d δ1 => match tgt P t d δ1 with
  | some δ2 => .nx δ2
  | none => .fail
def mIfS (t : Mn Bool) (a b : Ms) : Ms := fun δ => (t δ).toS fun c δ1 => if c = true then a δ1 else b δ1
theorem tPass (h : tS w P mPass D σ H) : tNext D σ H := by
  obtain ⟨Z, δ, F, e, h⟩ := h
  exact h σ Z H F e .refl .refl
theorem tBrk (h : tS w P mBrk D σ H) : tBreak D σ H := by
  obtain ⟨Z, δ, F, e, h⟩ := h
  exact h σ Z H F e .refl .refl
theorem tCt (h : tS w P mCt D σ H) : tCont D σ H := by
  obtain ⟨Z, δ, F, e, h⟩ := h
  exact h σ Z H F e .refl .refl
theorem tFailS {t : TS} (h : tS w P mFailS D σ H) : t D σ H := by
  obtain ⟨Z, δ, F, e, h⟩ := h
  exact h.elim
theorem tSeq' {a b : Ms} (h : tS w P (mSeq a b) D σ H) : tSeq (tS w P a) (tS w P b) D σ H := by
  obtain ⟨Z, δ, F, e, h⟩ := h
  refine ⟨Z, δ, F, e, ?_⟩
  unfold mSeq at h
  cases q : a δ with
  | nx δ1 =>
    rw [q] at h
    exact fun σ' Z' H' F' e' p k => ⟨Z', δ1, F', e', sOut_on h p (fun _ z => z) k⟩
  | bk δ' => rw [q] at h; exact h
  | ct δ' => rw [q] at h; exact h
  | rt d δ' => rw [q] at h; exact h
  | exc x δ' => rw [q] at h; exact h
  | fail => rw [q] at h; exact h
theorem tDo {m : Mn A} (h : tS w P (mDo m) D σ H) : tDrop (tA w m) D σ H := by
  obtain ⟨Z, δ, F, e, h⟩ := h
  refine ⟨Z, δ, F, e, ?_⟩
  unfold mDo at h
  cases q : m δ with
  | fail => rw [q] at h; exact h
  | exc x δ1 => rw [q] at h; exact fun cls dd Z' H' F' e' x' p' => h cls dd σ Z' H' F' e' x' p' .refl
  | ok d δ1 =>
    rw [q] at h
    exact fun v Z' H' F' O e' r t p => h σ Z' H' F' e' (p.drop fun a z => .inl z) .refl
theorem tRet' {m : Mn A} (h : tS w P (mRet m) D σ H) : tRet (tA w m) D σ H := by
  obtain ⟨Z, δ, F, e, h⟩ := h
  refine tA_val ⟨Z, δ, F, e, ?_⟩
  unfold mRet at h
  cases q : mVal m δ with
  | fail => rw [q] at h; exact h
  | exc x δ1 => rw [q] at h; exact fun cls dd Z' H' F' e' x' p' => h cls dd σ Z' H' F' e' x' p' .refl
  | ok d δ1 =>
    rw [q] at h
    exact fun v Z' H' F' O e' r t p => h v σ Z' H' F' O e' r t p .refl
theorem tRetN' (h : tS w P mRetN D σ H) : tRetN D σ H := by
  obtain ⟨Z, δ, F, e, h⟩ := h
  exact h .non σ Z H F [] e ⟨rfl, rfl⟩ .nil (postNil .refl) .refl
theorem tAsg' {m : Mn A} {t : Tg} {g : TG} (hg : ∀ v σ H Q, tG w P t v σ H Q → g v σ H Q) (h : tS w P (mAsg P t m) D σ H) : tAsg (tA w m) g D σ H := by
  obtain ⟨Z, δ, F, e, h⟩ := h
  refine tA_val ⟨Z, δ, F, e, ?_⟩
  unfold mAsg at h
  cases q : mVal m δ with
  | fail => rw [q] at h; exact h
  | exc x δ1 => rw [q] at h; exact fun cls dd Z' H' F' e' x' p' => h cls dd σ Z' H' F' e' x' p' .refl
  | ok d δ1 =>
    rw [q] at h
    simp only [R.toS_ok] at h
    intro v Z' H' F' O e' r tm p
    refine hg _ _ _ _ ⟨Z', δ1, F', d, O, e', r, tm, ?_⟩
    cases q2 : tgt P t d δ1 with
    | none => rw [q2] at h; exact h.elim
    | some δ2 =>
      rw [q2] at h
      exact fun σ' F2 e2 s k => h σ' Z' H' F2 e2 (p.drop fun a z => s a z) k
theorem tIfS' {t : Mn Bool} {a b : Ms} (h : tS w P (mIfS t a b) D σ H) : tIfS (tT w t) (tS w P a) (tS w P b) D σ H := by
  obtain ⟨Z, δ, F, e, h⟩ := h
  refine ⟨Z, δ, F, e, ?_⟩
  unfold mIfS at h
  cases q : t δ with
  | fail => rw [q] at h; exact h
  | exc x δ1 => rw [q] at h; exact fun cls dd Z' H' F' e' x' p' => h cls dd σ Z' H' F' e' x' p' .refl
  | ok c δ1 =>
    rw [q] at h
    simp only [R.toS_ok] at h
    intro Z1 H1 F1 e1 p1
    cases c with
    | true =>
      rw [if_pos rfl]
      rw [if_pos rfl] at h
      exact ⟨Z1, δ1, F1, e1, sOut_on h p1 (fun _ z => z) .refl⟩
    | false =>
      rw [if_neg Bool.false_ne_true]
      rw [if_neg Bool.false_ne_true] at h
      exact ⟨Z1, δ1, F1, e1, sOut_on h p1 (fun _ z => z) .refl⟩

/-! ### loops -/
def mWhile (t : Mn Bool) (b : Ms) : Nat → Ms
  | 0, _ => .fail
  | n + 1, δ => (t δ).toS fun c δ1 => if c = true then match b δ1 with
      | .nx δ2 => mWhile t b n δ2
      | .ct δ2 => mWhile t b n δ2
      | .bk δ2 => .nx δ2
      | o => o
    else .nx δ1
theorem tWhile' {t : Mn Bool} {b : Ms} {n : Nat} {rt : TT} {rb : TS} (ht : ∀ σ H Q, tT w t σ H Q → rt σ H Q) (hb : ∀ D σ H, tS w P b D σ H → rb D σ H) (h : tS w P (mWhile t b n) D σ H) : tWhile rt rb D σ H := by
  refine ⟨fun m σ H => tS w P (mWhile t b m) D σ H, ⟨n, h⟩, ?_⟩
  rintro m σ H ⟨Z, δ, F, e, h⟩
  cases m with
  | zero => exact h.elim
  | succ m =>
    refine ht _ _ _ ⟨Z, δ, F, e, ?_⟩
    unfold mWhile at h
    cases q : t δ with
    | fail => rw [q] at h; exact h
    | exc x δ1 => rw [q] at h; exact fun cls dd Z' H' F' e' x' p' => h cls dd σ Z' H' F' e' x' p' .refl
    | ok c δ1 =>
      rw [q] at h
      simp only [R.toS_ok] at h
      intro Z1 H1 F1 e1 p1
      cases c with
      | false =>
        rw [if_neg Bool.false_ne_true]
        rw [if_neg Bool.false_ne_true] at h
        exact h σ Z1 H1 F1 e1 p1 .refl
      | true =>
        rw [if_pos rfl]
        rw [if_pos rfl] at h
        refine ⟨fun σ' H' => tS w P (mWhile t b m) D σ' H', fun σ' H' k => ⟨m, Nat.lt_succ_self m, k⟩, hb _ _ _ ⟨Z1, δ1, F1, e1, ?_⟩⟩
        cases qb : b δ1 with
        | nx δ2 => rw [qb] at h; exact fun σ' Z' H' F' e' p k => ⟨Z', δ2, F', e', sOut_on h (p1.trans p) (fun _ z => z) k⟩
        | ct δ2 => rw [qb] at h; exact fun σ' Z' H' F' e' p k => ⟨Z', δ2, F', e', sOut_on h (p1.trans p) (fun _ z => z) k⟩
        | bk δ2 => rw [qb] at h; exact fun σ' Z' H' F' e' p k => h σ' Z' H' F' e' (p1.trans p) k
        | rt d δ2 => rw [qb] at h; exact sOut_on (o := .rt d δ2) h p1 (fun _ z => z) .refl
        | exc x δ2 => rw [qb] at h; exact sOut_on (o := .exc x δ2) h p1 (fun _ z => z) .refl
        | fail => rw [qb] at h; exact h
def mForL (P : List Nat) (t : Tg) (b : Ms) : List Yv.D → Ms
  | [], δ => .nx δ
  | d :: ds, δ => match tgt P t d δ with
    | none => .fail
    | some δ1 => match b δ1 with
      | .nx δ2 => mForL P t b ds δ2
      | .ct δ2 => mForL P t b ds δ2
      | .bk δ2 => .nx δ2
      | o => o
def mFor (P : List Nat) (mi : Mn (List Yv.D)) (t : Tg) (b : Ms) : Ms := fun δ => (mi δ).toS fun ds δ1 => mForL P t b ds δ1
theorem tFor' {mi : Mn (List Yv.D)} {t : Tg} {b : Ms} {wi : TI} {g : TG} {rb : TS} (hi : ∀ σ H R, tI w mi σ H R → wi σ H R) (hg : ∀ v σ H Q, tG w P t v σ H Q → g v σ H Q) (hb : ∀ D σ H, tS w P b D σ H → rb D σ H)
    (h : tS w P (mFor P mi t b) D σ H) : tFor wi g rb D σ H := by
  refine hi _ _ _ ?_
  obtain ⟨Z, δ, F, e, h⟩ := h
  refine ⟨Z, δ, F, e, ?_⟩
  unfold mFor at h
  cases q : mi δ with
  | fail => rw [q] at h; exact h
  | exc x δ1 => rw [q] at h; exact fun cls dd Z' H' F' e' x' p' => h cls dd σ Z' H' F' e' x' p' .refl
  | ok ds δ1 =>
    rw [q] at h
    simp only [R.toS_ok] at h
    intro J Z1 H1 F1 e1 p1 it
    refine ⟨fun i m σ' H' => m = ds.length - i ∧ i ≤ ds.length ∧ ∃ Z' δ' F', ER w.K Z' H' δ' σ' F' ∧ Zx Z1 H1 Z' H' ∧ sOut w P D σ' Z' H' F' (mForL P t b (ds.drop i) δ'), ⟨ds.length, by simp, Nat.zero_le _, Z1, δ1, F1, e1, .refl, ?_⟩, ?_⟩
    · simpa using sOut_on h p1 (fun _ z => z) .refl
    · rintro i m σ' H' ⟨rfl, hle, Z', δ', F', e', zx, ho⟩
      by_cases hlt : i < ds.length
      rotate_left
      · have ei : i = ds.length := by omega
        subst ei
        rw [List.drop_length] at ho
        exact .inl ⟨it.stop Z' H' zx, ho σ' Z' H' F' e' .refl .refl⟩
      · refine .inr ⟨it.go Z' H' zx i hlt, fun σ2 H2 => (fun i m σ' H' => m = ds.length - i ∧ i ≤ ds.length ∧ ∃ Z' δ' F', ER w.K Z' H' δ' σ' F' ∧ Zx Z1 H1 Z' H' ∧ sOut w P D σ' Z' H' F' (mForL P t b (ds.drop i) δ')) (i + 1) (ds.length - (i + 1)) σ2 H2, fun σ2 H2 k => ⟨ds.length - (i + 1), by omega, k⟩, fun x H2 y => ?_⟩
        obtain ⟨Z2, f2, r2⟩ := it.yld Z' H' zx e'.zt i ds[i] (by simp [hlt]) x H2 y
        have e2 := f2.keep e'
        rw [List.drop_eq_getElem_cons hlt] at ho
        unfold mForL at ho
        refine hg _ _ _ _ ⟨Z2, δ', F', ds[i], [], e2, r2, .nil, ?_⟩
        cases qt : tgt P t ds[i] δ' with
        | none => rw [qt] at ho; exact ho.elim
        | some δa =>
          rw [qt] at ho
          dsimp only at ho
          intro σ3 F3 e3 s3 k3
          have sub3 : ∀ a, Pf F3 a → Pf F' a := fun a z => (s3 a z).elim id fun z => by cases z
          have pf2 : Post Z' H' (Pf F') Z2 H2 (Pf F3) := (f2.po.mono (P' := Pf F') (P1' := Pf F') (fun _ z => z.elim) fun a z => .inr z).drop sub3
          have zx2 : Zx Z1 H1 Z2 H2 := zx.trans f2.zx
          refine hb _ _ _ ⟨Z2, δa, F3, e3, ?_⟩
          cases qb : b δa with
          | nx δ2 =>
            rw [qb] at ho
            exact fun σ4 Z4 H4 F4 e4 p4 k4 => ⟨rfl, hlt, Z4, δ2, F4, e4, zx2.trans (p4.zx e3.zP), sOut_on ho (pf2.trans p4) (fun _ z => z) (k3.trans k4)⟩
          | ct δ2 =>
            rw [qb] at ho
            exact fun σ4 Z4 H4 F4 e4 p4 k4 => ⟨rfl, hlt, Z4, δ2, F4, e4, zx2.trans (p4.zx e3.zP), sOut_on ho (pf2.trans p4) (fun _ z => z) (k3.trans k4)⟩
          | bk δ2 =>
            rw [qb] at ho
            exact fun σ4 Z4 H4 F4 e4 p4 k4 => ho σ4 Z4 H4 F4 e4 (pf2.trans p4) (k3.trans k4)
          | rt d δ2 => rw [qb] at ho; exact sOut_on (o := .rt d δ2) ho pf2 (fun _ z => z) k3
          | exc x δ2 => rw [qb] at ho; exact sOut_on (o := .exc x δ2) ho pf2 (fun _ z => z) k3
          | fail => rw [qb] at ho; exact ho
end
end Yv

set_option Elab.async false
set_option linter.all false
set_option maxRecDepth 100000
set_option maxHeartbeats 4000000
/-! I8: calls of the text's own defs -/
namespace Yv
open PySem L2

/-- what a call hands back: the value, what became of the arguments -/
inductive CR where
  | ok (d : D) (ds : List D)
  | exc (x : Xc) (ds : List D)
  | fail
def somes {α : Type} (ds : List α) : List (Option α) := ds.map some
/-- the promise of a def whose meaning is fm -/
def spF (K : PySem.W.Frag) (ca : Nat → Addr) (fm : List D → CR) : Sp := fun vs H Q E => ∃ Z ds F, ER K Z H (somes ds) (somes vs) F ∧ match fm ds with
  | .ok d ds' => ∀ v Z' H' F' O, ER K Z' H' (somes ds') (somes vs) F' → Rep K Z' H' d v O → Tmp Z' F' O → Post Z H (Pf F) Z' H' (fun a => Pf F' a ∨ a ∈ O) → Q v H'
  | .exc x ds' => ∀ cls dd Z' H' F', ER K Z' H' (somes ds') (somes vs) F' → XRep K ca Z' H' x cls dd → Post Z H (Pf F) Z' H' (Pf F') → E cls dd H'
  | .fail => False
/-- the slot i is lent to the argument at j -/
def lent (i : Nat) : A → D → Bool
  | .nm k, d => k == i && !d.pure
  | .dt _, _ => false
def lentAt (as : List A) (ds : List D) (i : Nat) : Option Nat := (as.zip ds).findIdx? fun p => lent i p.1 p.2
def lentSlots (as : List A) (ds : List D) : List Nat := (as.zip ds).filterMap fun p => match p.1 with
  | .nm k => if p.2.pure then none else some k
  | .dt _ => none
def back (as : List A) (ds ds' : List D) (δ : Env') : Env' := δ.mapIdx fun i o => match lentAt as ds i with
  | some j => ds'[j]?
  | none => o
def mCall (fm : List D → CR) (ms : Mn (List A)) : Mn A := fun δ => (ms δ).bind fun as δ1 => match resAs δ1 as with
  | some ds => if decide (lentSlots as ds).Nodup then match fm ds with
      | .ok d ds' => .ok (.dt d) (back as ds ds' δ1)
      | .exc x ds' => .exc x (back as ds ds' δ1)
      | .fail => .fail
    else .fail
  | none => .fail

theorem resAs_length : ∀ {δ : Env'} {as : List A} {ds : List D}, resAs δ as = some ds → as.length = ds.length
  | _, [], _, h => by cases h; rfl
  | δ, a :: as, ds, h => by
    unfold resAs at h
    cases h1 : resA δ a with
    | none => rw [h1] at h; simp at h
    | some d =>
      cases h2 : resAs δ as with
      | none => rw [h1, h2] at h; simp at h
      | some ds' => rw [h1, h2] at h; cases h; rw [List.length_cons, List.length_cons, resAs_length h2]
theorem resAs_get : ∀ {δ : Env'} {as : List A} {ds : List D}, resAs δ as = some ds → ∀ {j : Nat} {a : A}, as[j]? = some a → ∃ d, ds[j]? = some d ∧ resA δ a = some d
  | δ, b :: as, ds, h, j, a, e => by
    unfold resAs at h
    cases h1 : resA δ b with
    | none => rw [h1] at h; simp at h
    | some d =>
      cases h2 : resAs δ as with
      | none => rw [h1, h2] at h; simp at h
      | some ds' =>
        rw [h1, h2] at h; cases h
        cases j with
        | zero => cases e; exact ⟨d, rfl, h1⟩
        | succ j =>
          obtain ⟨d', q1, q2⟩ := resAs_get h2 (j := j) (a := a) (by simpa using e)
          exact ⟨d', by simpa using q1, q2⟩
theorem RepAs.get {w : Wc} {Z : Zp} {H : Hp} {σ : St} : ∀ {as : List A} {vs : List V} {Os : List (List Addr)}, RepAs w.K Z H σ as vs Os → ∀ {j : Nat} {a : A}, as[j]? = some a → ∃ v O, vs[j]? = some v ∧ Os[j]? = some O ∧ RepA w.K Z H σ a v O
  | _ :: _, _, _, ⟨v, ws, O, Os', e1, e2, r1, r2⟩, 0, a, e => by
    cases e
    exact ⟨v, O, by rw [e1]; rfl, by rw [e2]; rfl, r1⟩
  | _ :: _, _, _, ⟨v, ws, O, Os', e1, e2, r1, r2⟩, j + 1, a, e => by
    obtain ⟨v', O', q1, q2, q3⟩ := RepAs.get r2 (j := j) (a := a) (by simpa using e)
    exact ⟨v', O', by rw [e1]; simpa using q1, by rw [e2]; simpa using q2, q3⟩
theorem RepAs.length {w : Wc} {Z : Zp} {H : Hp} {σ : St} : ∀ {as : List A} {vs : List V} {Os : List (List Addr)}, RepAs w.K Z H σ as vs Os → as.length = vs.length ∧ as.length = Os.length
  | [], _, _, h => by rw [h.1, h.2]; exact ⟨rfl, rfl⟩
  | _ :: _, _, _, ⟨v, ws, O, Os', e1, e2, r1, r2⟩ => by
    obtain ⟨q1, q2⟩ := RepAs.length r2
    rw [e1, e2]; exact ⟨by rw [List.length_cons, List.length_cons, q1], by rw [List.length_cons, List.length_cons, q2]⟩
theorem flat_dj {Os : List (List Addr)} (h : Os.flatten.Nodup) : ∀ {j k : Nat} {a : Addr} {O O2 : List Addr}, Os[j]? = some O → Os[k]? = some O2 → a ∈ O → a ∈ O2 → j = k := by
  induction Os with
  | nil => intro j k a O O2 e; simp at e
  | cons P Os ih =>
    intro j k a O O2 e1 e2 m1 m2
    rw [List.flatten_cons] at h
    obtain ⟨n1, n2, n3⟩ := List.nodup_append.mp h
    have fl : ∀ {k : Nat} {O2 : List Addr}, Os[k]? = some O2 → a ∈ O2 → a ∈ Os.flatten := fun e m => List.mem_flatten.mpr ⟨_, List.mem_of_getElem? e, m⟩
    cases j with
    | zero =>
      cases e1
      cases k with
      | zero => rfl
      | succ k => exact absurd rfl (n3 a m1 a (fl (by simpa using e2) m2))
    | succ j =>
      cases k with
      | zero => cases e2; exact absurd rfl (n3 a m2 a (fl (by simpa using e1) m1))
      | succ k =>
        have q : j = k := ih n2 (by simpa using e1) (by simpa using e2) m1 m2
        rw [q]
theorem flat_nd {Os : List (List Addr)} (h : Os.flatten.Nodup) {j : Nat} {O : List Addr} (e : Os[j]? = some O) : O.Nodup := by
  induction Os generalizing j with
  | nil => simp at e
  | cons P Os ih =>
    rw [List.flatten_cons] at h
    obtain ⟨n1, n2, _⟩ := List.nodup_append.mp h
    cases j with
    | zero => cases e; exact n1
    | succ j => exact ih n2 (by simpa using e)
theorem lentSlots_inj {as : List A} {ds : List D} (h : (lentSlots as ds).Nodup) {i j k : Nat} {d e : D} (a1 : as[j]? = some (.nm i)) (d1 : ds[j]? = some d) (p1 : d.pure = false) (a2 : as[k]? = some (.nm i)) (d2 : ds[k]? = some e) (p2 : e.pure = false) : j = k := by
  unfold lentSlots at h
  have z1 : (as.zip ds)[j]? = some (.nm i, d) := List.getElem?_zip_eq_some.mpr ⟨a1, d1⟩
  have z2 : (as.zip ds)[k]? = some (.nm i, e) := List.getElem?_zip_eq_some.mpr ⟨a2, d2⟩
  generalize as.zip ds = l at h z1 z2
  clear a1 d1 a2 d2
  induction l generalizing j k with
  | nil => simp at z1
  | cons p l ih =>
    have mem : ∀ {k : Nat} {e : D}, l[k]? = some (A.nm i, e) → e.pure = false → i ∈ l.filterMap (fun p => match p.1 with | .nm k => if p.2.pure then none else some k | .dt _ => none) := fun {k e} z q => List.mem_filterMap.mpr ⟨_, List.mem_of_getElem? z, by simp [q]⟩
    cases j with
    | zero =>
      cases k with
      | zero => rfl
      | succ k =>
        simp only [List.getElem?_cons_zero, Option.some.injEq] at z1
        subst z1
        simp only [List.filterMap_cons, p1] at h
        exact absurd (mem (by simpa using z2) p2) (List.nodup_cons.mp h).1
    | succ j =>
      cases k with
      | zero =>
        simp only [List.getElem?_cons_zero, Option.some.injEq] at z2
        subst z2
        simp only [List.filterMap_cons, p2] at h
        exact absurd (mem (by simpa using z1) p1) (List.nodup_cons.mp h).1
      | succ k =>
        have h' : (l.filterMap fun p => match p.1 with | .nm k => if p.2.pure then none else some k | .dt _ => none).Nodup := by
          rw [List.filterMap_cons] at h
          split at h
          · exact h
          · exact (List.nodup_cons.mp h).2
        have q : j = k := ih h' (by simpa using z1) (by simpa using z2)
        rw [q]
theorem lentAt_some {as : List A} {ds : List D} {i j : Nat} (h : lentAt as ds i = some j) : ∃ d, as[j]? = some (.nm i) ∧ ds[j]? = some d ∧ d.pure = false := by
  unfold lentAt at h
  rw [List.findIdx?_eq_some_iff_getElem] at h
  obtain ⟨hj, q, _⟩ := h
  have z : (as.zip ds)[j]? = some (as.zip ds)[j] := List.getElem?_eq_getElem hj
  generalize (as.zip ds)[j] = p at q z
  obtain ⟨a, d⟩ := p
  have z := List.getElem?_zip_eq_some.mp z
  cases a with
  | nm k =>
    simp only [lent, Bool.and_eq_true, beq_iff_eq, Bool.not_eq_true'] at q
    exact ⟨d, by rw [z.1, q.1], z.2, q.2⟩
  | dt e => simp [lent] at q
theorem lentAt_none {as : List A} {ds : List D} {i : Nat} (h : lentAt as ds i = none) {j : Nat} {d : D} (a : as[j]? = some (.nm i)) (e : ds[j]? = some d) : d.pure = true := by
  unfold lentAt at h
  rw [List.findIdx?_eq_none_iff] at h
  have z : (as.zip ds)[j]? = some (.nm i, d) := List.getElem?_zip_eq_some.mpr ⟨a, e⟩
  have := h _ (List.mem_of_getElem? z)
  simpa [lent] using this
theorem back_get {as : List A} {ds ds' : List D} {δ : Env'} {i : Nat} : (back as ds ds' δ)[i]? = (δ[i]?).map fun o => match lentAt as ds i with | some j => ds'[j]? | none => o := by
  unfold back
  rw [List.getElem?_mapIdx]
section
variable {w : Wc} {σ : St} {H : Hp}
theorem somes_get {α : Type} {ds : List α} {i : Nat} {d : α} : (somes ds)[i]? = some (some d) ↔ ds[i]? = some d := by
  unfold somes
  rw [List.getElem?_map]
  cases ds[i]? <;> simp
theorem tCall' {fm : List D → CR} {ms : Mn (List A)} {Q : VK} (h : tA w (mCall fm ms) σ H Q) : tAs w ms σ H (fun vs H1 => spF w.K w.ca fm vs H1 Q fun cls dd H' => w.W cls dd σ H') := by
  obtain ⟨Z, δ, F, e, h⟩ := h
  refine ⟨Z, δ, F, e, ?_⟩
  unfold mCall at h
  cases qa : ms δ with
  | fail => rw [qa] at h; exact h
  | exc x δ1 => rw [qa] at h; exact h
  | ok as δ1 =>
    rw [qa] at h
    simp only [R.bind_ok] at h
    intro vs Z1 H1 F1 Os e1 r1 t1 p1
    cases ra : resAs δ1 as with
    | none => rw [ra] at h; exact h.elim
    | some ds =>
      rw [ra] at h
      by_cases nd : (lentSlots as ds).Nodup
      rotate_left
      · simp only [nd, decide_false] at h
        exact h.elim
      simp only [nd, decide_true, if_true] at h
      obtain ⟨hl1, hl2⟩ := r1.length
      have hl3 := resAs_length ra
      let G : Fp := fun j => match as[j]?, ds[j]? with
        | some (.nm i), some d => if d.pure then [] else F1 i
        | some (.dt _), some _ => (Os[j]?).getD []
        | _, _ => []
      -- an address of G is an address of a lent slot or of a temporary
      have Gc : ∀ {j : Nat} {a : Addr}, a ∈ G j → (∃ i d, as[j]? = some (.nm i) ∧ ds[j]? = some d ∧ d.pure = false ∧ a ∈ F1 i) ∨ (∃ d O, as[j]? = some (.dt d) ∧ Os[j]? = some O ∧ a ∈ O) := fun {j a} m => by
        have m : a ∈ (match as[j]?, ds[j]? with
          | some (.nm i), some d => if d.pure then [] else F1 i
          | some (.dt _), some _ => (Os[j]?).getD []
          | _, _ => []) := m
        cases q1 : as[j]? with
        | none => rw [q1] at m; cases m
        | some b =>
          cases q2 : ds[j]? with
          | none => rw [q1, q2] at m; cases b <;> cases m
          | some d =>
            rw [q1, q2] at m
            cases b with
            | nm i =>
              dsimp only at m
              cases q3 : d.pure with
              | true => rw [q3] at m; cases m
              | false => rw [q3] at m; exact .inl ⟨i, d, rfl, rfl, q3, m⟩
            | dt e =>
              dsimp only at m
              cases q3 : Os[j]? with
              | none => rw [q3] at m; cases m
              | some O => rw [q3] at m; exact .inr ⟨e, O, rfl, rfl, m⟩
      have tmem : ∀ {j : Nat} {O : List Addr} {a : Addr}, Os[j]? = some O → a ∈ O → a ∈ Os.flatten := fun q m => List.mem_flatten.mpr ⟨_, List.mem_of_getElem? q, m⟩
      have eG : ER w.K Z1 H1 (somes ds) (somes vs) G := {
        len := by unfold somes; rw [List.length_map, List.length_map]; omega
        rep := fun j d q => by
          rw [somes_get] at q
          have hj : j < as.length := by rw [hl3]; exact (List.getElem?_eq_some_iff.mp q).1
          have qa' : as[j]? = some as[j] := by simp [hj]
          obtain ⟨d', q1, q2⟩ := resAs_get ra qa'
          rw [q] at q1; cases q1
          obtain ⟨v, O, q3, q4, q5⟩ := r1.get qa'
          refine ⟨v, somes_get.mpr q3, ?_⟩
          show Rep w.K Z1 H1 d v (match as[j]?, ds[j]? with
            | some (.nm i), some d => if d.pure then [] else F1 i
            | some (.dt _), some _ => (Os[j]?).getD []
            | _, _ => [])
          rw [qa', q]
          cases hb : as[j] with
          | nm i =>
            dsimp only
            rw [hb] at q2 q5
            obtain ⟨v', q6, q7⟩ := e1.rep i d (join_some q2)
            rw [q5.1] at q6; cases q6
            cases q8 : d.pure with
            | true => exact q7.pureO q8
            | false => exact q7
          | dt d' =>
            dsimp only
            rw [hb] at q2 q5
            cases q2
            rw [q4]
            exact q5
        emp := fun j q => by
          have hn : ds[j]? = none := by
            cases z : ds[j]? with
            | none => rfl
            | some d => exact absurd (somes_get.mpr z) (q d)
          show (match as[j]?, ds[j]? with
            | some (.nm i), some d => if d.pure then [] else F1 i
            | some (.dt _), some _ => (Os[j]?).getD []
            | _, _ => []) = []
          rw [hn]
          cases as[j]? with
          | none => rfl
          | some b => cases b <;> rfl
        nd := fun j => by
          show (match as[j]?, ds[j]? with
            | some (.nm i), some d => if d.pure then [] else F1 i
            | some (.dt _), some _ => (Os[j]?).getD []
            | _, _ => []).Nodup
          split
          · split
            · exact List.nodup_nil
            · exact e1.nd _
          · cases q : Os[j]? with
            | none => exact List.nodup_nil
            | some O => exact flat_nd t1.nd q
          · exact List.nodup_nil
        dj := fun j k a m1 m2 => by
          rcases Gc m1 with ⟨i, d, b1, b2, b3, b4⟩ | ⟨d, O, b1, b2, b3⟩
          · rcases Gc m2 with ⟨i', d', c1, c2, c3, c4⟩ | ⟨d', O', c1, c2, c3⟩
            · have ei := e1.dj i i' a b4 c4
              subst ei
              exact lentSlots_inj nd b1 b2 b3 c1 c2 c3
            · exact absurd b4 (t1.dj a (tmem c2 c3) i)
          · rcases Gc m2 with ⟨i', d', c1, c2, c3, c4⟩ | ⟨d', O', c1, c2, c3⟩
            · exact absurd c4 (t1.dj a (tmem b2 b3) i')
            · exact flat_dj t1.nd b2 c2 b3 c3
        nz := fun j a m => by
          rcases Gc m with ⟨i, d, b1, b2, b3, b4⟩ | ⟨d, O, b1, b2, b3⟩
          · exact e1.nz i a b4
          · exact t1.nz a (tmem b2 b3)
        zt := e1.zt }
      -- behind the call: what is not lent is as it was
      have after : ∀ {ds' : List Yv.D} {Z' : Zp} {H' : Hp} {F' : Fp} {PP : Zp}, ER w.K Z' H' (somes ds') (somes vs) F' → Post Z1 H1 (Pf G) Z' H' PP → (∀ a, Pf F' a → PP a) →
          ER w.K Z' H' (back as ds ds' δ1) σ (fun i => match lentAt as ds i with | some j => F' j | none => F1 i) := fun {ds' Z' H' F' PP} e' p' hPP => by
        have stay : ∀ {i : Nat}, lentAt as ds i = none → ∀ a ∈ F1 i, ¬ Pf G a := fun {i} hn a m ⟨j, mj⟩ => by
          rcases Gc mj with ⟨i', d, b1, b2, b3, b4⟩ | ⟨d, O, b1, b2, b3⟩
          · have ei := e1.dj i i' a m b4
            subst ei
            rw [lentAt_none hn b1 b2] at b3; cases b3
          · exact t1.dj a (tmem b2 b3) i m
        have zx : Zx Z1 H1 Z' H' := p'.zx fun a z ⟨j, m⟩ => eG.nz j a m z
        refine ⟨by unfold back; rw [List.length_mapIdx]; exact e1.len, fun i d q => ?_, fun i q => ?_, fun i => ?_, fun i k a m1 m2 => ?_, fun i a m => ?_, e'.zt⟩
        · rw [back_get] at q
          cases q1 : δ1[i]? with
          | none => rw [q1] at q; cases q
          | some o =>
            rw [q1] at q
            cases q2 : lentAt as ds i with
            | some j =>
              rw [q2] at q
              simp only [Option.map_some, Option.some.injEq] at q
              obtain ⟨d0, b1, b2, b3⟩ := lentAt_some q2
              obtain ⟨v, q3, q4⟩ := e'.rep j d (somes_get.mpr q)
              obtain ⟨v', O, q5, q6, q7⟩ := r1.get b1
              rw [somes_get] at q3
              rw [q5] at q3; cases q3
              exact ⟨v, q7.1, q4⟩
            | none =>
              rw [q2] at q
              simp only [Option.map_some, Option.some.injEq] at q
              subst q
              obtain ⟨v, q3, q4⟩ := e1.rep i d q1
              refine ⟨v, q3, ?_⟩
              dsimp only
              exact q4.mono zx fun a m o q => p'.kp a o q (stay q2 a m)
        · cases q2 : lentAt as ds i with
          | some j =>
            dsimp only
            refine e'.emp j fun d z => ?_
            rw [somes_get] at z
            obtain ⟨d0, b1, b2, b3⟩ := lentAt_some q2
            obtain ⟨d', c1, c2⟩ := resAs_get ra b1
            refine q d ?_
            rw [back_get, join_some c2, q2]
            simp only [Option.map_some, z]
          | none =>
            dsimp only
            refine e1.emp i fun d z => q d ?_
            rw [back_get, z, q2]
            rfl
        · cases q2 : lentAt as ds i with
          | some j => exact e'.nd j
          | none => exact e1.nd i
        · -- disjoint
          have sub : ∀ {i : Nat} {a : Addr}, a ∈ (match lentAt as ds i with | some j => F' j | none => F1 i) → (∃ j, lentAt as ds i = some j ∧ a ∈ F' j) ∨ (lentAt as ds i = none ∧ a ∈ F1 i) := fun {i a} m => by
            cases q2 : lentAt as ds i with
            | some j => rw [q2] at m; exact .inl ⟨j, rfl, m⟩
            | none =>
              rw [q2] at m
              exact .inr ⟨rfl, m⟩
          have apart : ∀ {i k j : Nat} {a : Addr}, lentAt as ds i = none → a ∈ F1 i → a ∈ F' j → False := fun {i k j a} hn m1 m2 => by
            rcases p'.on a (hPP a ⟨j, m2⟩) with z | z
            · exact stay hn a m1 z
            · obtain ⟨o, q⟩ := e1.trk m1
              rw [q] at z; cases z
          rcases sub m1 with ⟨j1, b1, b2⟩ | ⟨b1, b2⟩
          · rcases sub m2 with ⟨j2, c1, c2⟩ | ⟨c1, c2⟩
            · have ej := e'.dj j1 j2 a b2 c2
              subst ej
              obtain ⟨_, q1, _, _⟩ := lentAt_some b1
              obtain ⟨_, q2, _, _⟩ := lentAt_some c1
              rw [q1] at q2; cases q2; rfl
            · exact (apart (k := 0) c1 c2 b2).elim
          · rcases sub m2 with ⟨j2, c1, c2⟩ | ⟨c1, c2⟩
            · exact (apart (k := 0) b1 b2 c2).elim
            · exact e1.dj i k a b2 c2
        · cases q2 : lentAt as ds i with
          | some j => rw [q2] at m; exact e'.nz j a m
          | none =>
            rw [q2] at m
            intro z
            rcases p'.zn a z with z | z | z
            · exact e1.nz i a m z
            · exact stay q2 a m z
            · obtain ⟨o, q⟩ := e1.trk m
              rw [q] at z; cases z
      have PfB : ∀ {F' : Fp} {a : Addr}, Pf (fun i => match lentAt as ds i with | some j => F' j | none => F1 i) a → Pf F' a ∨ Pf F1 a := fun {F' a} ⟨i, m⟩ => by
        dsimp only at m
        cases q2 : lentAt as ds i with
        | some j => rw [q2] at m; exact .inl ⟨j, m⟩
        | none =>
          rw [q2] at m
          exact .inr ⟨i, m⟩
      have GP : ∀ a, Pf G a → Pf F1 a ∨ a ∈ Os.flatten := fun a ⟨j, m⟩ => by
        rcases Gc m with ⟨i, d, b1, b2, b3, b4⟩ | ⟨d, O, b1, b2, b3⟩
        · exact .inl ⟨i, b4⟩
        · exact .inr (tmem b2 b3)
      refine ⟨Z1, ds, G, eG, ?_⟩
      cases hf : fm ds with
      | fail => simp only [hf] at h
      | exc x ds' =>
        simp only [hf] at h
        intro cls dd Z' H' F' e' x' p'
        refine h cls dd Z' H' _ (after e' p' fun _ z => z) x' ?_
        have p2 := p1.trans (p'.mono (P1' := fun a => Pf F' a ∨ (Pf F1 a ∨ a ∈ Os.flatten)) GP fun a z => z)
        exact p2.drop fun a z => (PfB z).elim .inl fun z => .inr (.inl z)
      | ok d ds' =>
        simp only [hf] at h
        intro v Z' H' F' O e' r' t' p'
        have ea := after e' p' fun _ z => .inl z
        refine h v Z' H' _ O ea r' ⟨t'.nd, t'.nz, fun a m i mi => ?_⟩ ?_
        · cases q2 : lentAt as ds i with
          | some j => rw [q2] at mi; exact t'.dj a m j mi
          | none =>
            rw [q2] at mi
            rcases p'.on a (.inr m) with ⟨j, z⟩ | z
            · rcases Gc z with ⟨i', d, b1, b2, b3, b4⟩ | ⟨d, O, b1, b2, b3⟩
              · have ei := e1.dj i i' a mi b4
                subst ei
                rw [lentAt_none q2 b1 b2] at b3; cases b3
              · exact t1.dj a (tmem b2 b3) i mi
            · obtain ⟨o, q⟩ := e1.trk mi
              rw [q] at z; cases z
        · have p2 := p1.trans (p'.mono (P1' := fun a => (Pf F' a ∨ a ∈ O) ∨ (Pf F1 a ∨ a ∈ Os.flatten)) GP fun a z => z)
          refine p2.drop fun a z => ?_
          rcases z with z | z
          · exact (PfB z).elim (fun z => .inl (.inl z)) fun z => .inr (.inl z)
          · exact .inl (.inr z)
end
end Yv

set_option Elab.async false
set_option linter.all false
set_option maxRecDepth 100000
set_option maxHeartbeats 4000000
/-! I9: operators by values -/
namespace Yv
open PySem L2 PySem.Spec PyProof.Rows

section
variable {K : PySem.W.Frag}
theorem pr_done {Z : Zp} {H : Hp} {d : D} {v : V} {Q : VK} (zt : ∀ a, Z a → ∃ o, H a = some o) (k : ∀ v Z' H' O, Rep K Z' H' d v O → Fresh Z H Z' H' O → Q v H') (r : Rep K Z H d v []) : Q v H := k v Z H [] r (Fresh.refl zt)
theorem pr_lst {Z : Zp} {H : Hp} {ds : List D} {vs : List V} {Q : VK} (zt : ∀ a, Z a → ∃ o, H a = some o) (k : ∀ v Z' H' O, Rep K Z' H' (.lst true ds) v O → Fresh Z H Z' H' O → Q v H') (r : RepL K Z H ds vs []) {p : Addr} (hp : H p = none) : Q (.ref p) (upd H p (.lst vs)) := by
  have f := Fresh.own (o := HO.lst vs) zt hp
  exact k (.ref p) _ _ [p] ⟨p, vs, [], rfl, upd_same, rfl, r.mono f.zx (fun _ m => by cases m)⟩ f
theorem pr_tup {Z : Zp} {H : Hp} {ds : List D} {vs : List V} {Q : VK} (zt : ∀ a, Z a → ∃ o, H a = some o) (k : ∀ v Z' H' O, Rep K Z' H' (.tup ds) v O → Fresh Z H Z' H' O → Q v H') (r : RepL K Z H ds vs []) : NewT H vs Q := by
  intro p ob hp hob
  have f := Fresh.tup (o := HO.frz ob (.tup vs)) zt hp
  exact k (.ref p) _ _ [] ⟨p, vs, rfl, .inl ⟨.inr rfl, ob, hob, upd_same⟩, r.mono f.zx (fun _ m => by cases m)⟩ f
/-- a list of pure things: where it stands -/
theorem rep_lst {Z : Zp} {H : Hp} {o : Bool} {ds : List D} {v : V} {O : List Addr} (p : D.pureL ds = true) (r : Rep K Z H (.lst o ds) v O) : ∃ a vs, v = .ref a ∧ H a = some (.lst vs) ∧ RepL K Z H ds vs [] := by
  cases o with
  | false => obtain ⟨a, vs, e, t, r⟩ := r; exact ⟨a, vs, e, t.2, r.pureO p⟩
  | true => obtain ⟨a, vs, O', e, t, _, r⟩ := r; exact ⟨a, vs, e, t, r.pureO p⟩
theorem rep_tup {Z : Zp} {H : Hp} {ds : List D} {v : V} {O : List Addr} (p : D.pureL ds = true) (r : Rep K Z H (.tup ds) v O) : ∃ a vs, v = .ref a ∧ TupAt K Z H a vs ∧ RepL K Z H ds vs [] := by
  obtain ⟨a, vs, e, t, r⟩ := r; exact ⟨a, vs, e, t, r.pureO p⟩

/-! ### a + b -/
def pAdd : D → D → Option D
  | .int a, .int b => some (.int (a + b))
  | .str a, .str b => if sizeOk (a.length + b.length) then some (.str (a ++ b)) else none
  | .lst _ a, .lst _ b => if D.pureL a && D.pureL b && sizeOk (a.length + b.length) then some (.lst true (a ++ b)) else none
  | .tup a, .tup b => if D.pureL a && D.pureL b && sizeOk (a.length + b.length) then some (.tup (a ++ b)) else none
  | _, _ => none
def rAddS : R2 := fun x y H Q => ∃ i j, x = .str i ∧ y = .str j ∧ i.length + j.length ≤ sizeLine ∧ Q (.str (i ++ j)) H
def rAddA (K : PySem.W.Frag) : R2 := fun x y H Q => rI0 (fun i j => .int (i + j)) x y H Q ∨ rAddS x y H Q ∨ rCat x y H Q ∨ rCatY K x y H Q
theorem op_addA {X : Cx} : OpR X (binaryOp .Add) (rAddA X.K) := op_add.or (op_add_str.or (op_cat.or op_catY))
theorem if_some {α : Type} {c : Bool} {a b : α} (h : (if c = true then some a else none) = some b) : c = true ∧ a = b := by
  cases c with
  | true => exact ⟨rfl, by simpa using h⟩
  | false => simp at h
theorem pr_add : Pr2 K (rAddA K) pAdd := by
  intro Z H d e x y res Q ⟨O1, r1⟩ ⟨O2, r2⟩ zt h k
  cases d with
  | int a =>
    cases e with
    | int b => cases h; rw [r1.1, r2.1]; exact .inl ⟨a, b, rfl, rfl, pr_done zt k ⟨rfl, rfl⟩⟩
    | _ => cases h
  | str a =>
    cases e with
    | str b =>
      obtain ⟨c, rfl⟩ := if_some h
      rw [r1.1, r2.1]; exact .inr (.inl ⟨a, b, rfl, rfl, sizeOk_le c, pr_done zt k ⟨rfl, rfl⟩⟩)
    | _ => cases h
  | lst o a =>
    cases e with
    | lst o2 b =>
      obtain ⟨c, rfl⟩ := if_some h
      simp only [Bool.and_eq_true] at c
      obtain ⟨l1, vs1, rfl, h1, q1⟩ := rep_lst c.1.1 r1
      obtain ⟨l2, vs2, rfl, h2, q2⟩ := rep_lst c.1.2 r2
      refine .inr (.inr (.inl ⟨l1, l2, vs1, vs2, rfl, rfl, h1, h2, by rw [← q1.length, ← q2.length]; exact sizeOk_le c.2, fun p hp => ?_⟩))
      exact pr_lst zt k (q1.append q2) hp
    | _ => cases h
  | tup a =>
    cases e with
    | tup b =>
      obtain ⟨c, rfl⟩ := if_some h
      simp only [Bool.and_eq_true] at c
      obtain ⟨l1, vs1, rfl, h1, q1⟩ := rep_tup c.1.1 r1
      obtain ⟨l2, vs2, rfl, h2, q2⟩ := rep_tup c.1.2 r2
      refine .inr (.inr (.inr ⟨l1, l2, vs1, vs2, rfl, rfl, h1.sq, h2.sq, by rw [← q1.length, ← q2.length]; exact sizeOk_le c.2, fun e => ?_, fun e e2 => ?_, fun e e2 => pr_tup zt k (q1.append q2)⟩))
      · subst e
        have : a = [] := by cases a with
          | nil => rfl
          | cons _ _ => have := q1.length; simp at this
        subst this
        exact pr_done zt k ⟨l2, vs2, rfl, h2, q2⟩
      · subst e2
        have : b = [] := by cases b with
          | nil => rfl
          | cons _ _ => have := q2.length; simp at this
        subst this
        rw [List.append_nil] at k
        exact pr_done zt k ⟨l1, vs1, rfl, h1, q1⟩
    | _ => cases h
  | _ => cases h

/-! ### a - b, a * b, a // b, a % b, a ** b, -a -/
def pSub : D → D → Option D
  | .int a, .int b => some (.int (a - b))
  | _, _ => none
theorem pr_sub : Pr2 K (rI0 fun i j => .int (i - j)) pSub := by
  intro Z H d e x y res Q ⟨O1, r1⟩ ⟨O2, r2⟩ zt h k
  cases d with
  | int a =>
    cases e with
    | int b => cases h; rw [r1.1, r2.1]; exact ⟨a, b, rfl, rfl, pr_done zt k ⟨rfl, rfl⟩⟩
    | _ => cases h
  | _ => cases h
def bits (i : Int) : Nat := i.natAbs.log2
def pMul : D → D → Option D
  | .int a, .int b => if decide (bits a + bits b < 1000000) then some (.int (a * b)) else none
  | .lst _ a, .int b => if D.pureL a && in62 b && sizeOk (a.length * b.toNat) then some (.lst true (List.replicate b.toNat a).flatten) else none
  | .tup a, .int b => if D.pureL a && decide (1 ≤ b) && decide (b ≤ 1000) && decide (a.length ≤ 1000) && !a.isEmpty then some (.tup (List.replicate b.toNat a).flatten) else none
  | _, _ => none
def rRepT1 (K : PySem.W.Frag) : R2 := fun x y H Q => ∃ l xs, x = .ref l ∧ y = .int 1 ∧ SqT K H l xs ∧ Q (.ref l) H
theorem tuple_mul1 (l : Addr) (items : Array Value) (n : Nat) (dd : Option Addr) (sl : Array (Option Value)) (u : Tok) :
    Meets (Builtin.«tuple.__mul__» ⟨[.ref l, .int 1 u], []⟩) (fun _ R s => s.heap.get? l = some { cls := .type "tuple", dict := dd, data := .seq items n, slots := sl } ∧ R (.ok (.ret (Value.ref l))) s) :=
  .of_wp fun prog w A R s h => by
    obtain ⟨hp, g, d, tk, os⟩ := s
    obtain ⟨hl, h⟩ := h
    have f1 := AutoSeq1.idx_int
    have c0 : (decide ((1 : Int) < -(2 ^ 63)) || decide ((1 : Int) ≥ 2 ^ 63)) = false := by decide
    have c1 : (items.isEmpty || ((1 : Int) == 1)) = true := by simp
    wp_walk using wpAny_loadPart' hl
    repeat (first
      | (refine wpAny_ite_false (decide_eq_false (by rw [c0]; exact Bool.false_ne_true)) ?_; wp_walk using wpAny_loadPart' hl)
      | (refine wpAny_ite_true (decide_eq_true (by rw [c1])) ?_; wp_walk using wpAny_loadPart' hl))
    exact ⟨_, rfl, h⟩
theorem RepL.rep {Z : Zp} {H : Hp} {ds : List D} {vs : List V} (p : D.pureL ds = true) (r : RepL K Z H ds vs []) : ∀ n : Nat, RepL K Z H (List.replicate n ds).flatten (List.replicate n vs).flatten []
  | 0 => ⟨rfl, rfl⟩
  | n + 1 => by
    rw [List.replicate_succ, List.replicate_succ, List.flatten_cons, List.flatten_cons]
    exact r.append (RepL.rep p r n)
def rMulA (K : PySem.W.Frag) : R2 := fun x y H Q => rI CMulW (fun i j => .int (i * j)) x y H Q ∨ rRep x y H Q ∨ rRepY K x y H Q ∨ rRepT1 K x y H Q

theorem op_repT1 {X : Cx} : OpR X (binaryOp .Mult) (rRepT1 X.K) := by
  intro pins s σ H x y v u Q I rx ry h
  obtain ⟨l, xs, rfl, rfl, hT, q⟩ := h
  cases rx
  obtain ⟨t, rfl⟩ := ry
  obtain ⟨its, r, ⟨⟨cls, dd, data, sl⟩, ho, hc, n, hd⟩, hs⟩ := I.tuple hT
  simp only at hc hd
  subst hc hd
  refine wpAny_binaryOp_repeat_ref (T := "tuple") (U := "int") (by decide) ⟨_, ho, rfl⟩ (fun s' => typeIs_int s' 1 t) noFill_tuple_mul F.fills_int_mul F.slot_int_rmul repeat_tuple F.slot_int_index.lookup
    (call_meets F.slot_int_rmul (typeIs_int s 1 t) F.entry_int_rmul (F.args_int_rmul_2 _ _) (int_rmul_tuple 1 t l its.toArray n dd sl)
      ⟨ho, rfl, ⟨_, ho, rfl⟩, call_meets F.slot_tuple_mul ⟨_, ho, rfl⟩ F.entry_tuple_mul (F.args_tuple_mul_2 _ _) (tuple_mul1 l its.toArray n dd sl t) ⟨ho, ?_⟩⟩)
  exact ⟨.ref l, H, I, rfl, q⟩
theorem op_mulA {X : Cx} : OpR X (binaryOp .Mult) (rMulA X.K) := op_mulW.or (op_rep.or (op_repY.or op_repT1))
theorem pr_mul : Pr2 K (rMulA K) pMul := by
  intro Z H d e x y res Q ⟨O1, r1⟩ ⟨O2, r2⟩ zt h k
  cases d with
  | int a =>
    cases e with
    | int b =>
      obtain ⟨c, rfl⟩ := if_some h
      have c' : bits a + bits b < 1000000 := by simpa using c
      rw [r1.1, r2.1]; exact .inl ⟨a, b, rfl, rfl, c', pr_done zt k ⟨rfl, rfl⟩⟩
    | _ => cases h
  | lst o a =>
    cases e with
    | int b =>
      obtain ⟨c, rfl⟩ := if_some h
      simp only [Bool.and_eq_true, decide_eq_true_eq] at c
      obtain ⟨l1, vs1, rfl, h1, q1⟩ := rep_lst c.1.1 r1
      rw [r2.1]
      exact .inr (.inl ⟨l1, b, vs1, rfl, rfl, h1, in62_lo c.1.2, in62_hi c.1.2, by rw [← q1.length]; exact sizeOk_le c.2, fun p hp => pr_lst zt k (q1.rep c.1.1 _) hp⟩)
    | _ => cases h
  | tup a =>
    cases e with
    | int b =>
      obtain ⟨c, rfl⟩ := if_some h
      simp only [Bool.and_eq_true, decide_eq_true_eq, Bool.not_eq_true'] at c
      obtain ⟨l1, vs1, rfl, h1, q1⟩ := rep_tup c.1.1.1.1 r1
      rw [r2.1]
      have hl := q1.length
      by_cases hb : b = 1
      · subst hb
        have e1 : (List.replicate (1 : Int).toNat a).flatten = a := by simp
        rw [e1] at k
        exact .inr (.inr (.inr ⟨l1, vs1, rfl, rfl, h1.sq, pr_done zt k ⟨l1, vs1, rfl, h1, q1⟩⟩))
      · refine .inr (.inr (.inl ⟨l1, b, vs1, rfl, rfl, h1.sq, fun z => ?_, by omega, c.1.1.2, by omega, pr_tup zt k (q1.rep c.1.1.1.1 _)⟩))
        rw [z] at hl
        cases a with
        | nil => simp at c
        | cons _ _ => simp at hl
    | _ => cases h
  | _ => cases h
def pDiv : D → D → Option D
  | .int a, .int b => if decide (0 < b) && decide (bits b < 9000) then some (.int (a / b)) else none
  | _, _ => none
theorem pr_div : Pr2 K (rI CDivW fun i j => .int (i / j)) pDiv := by
  intro Z H d e x y res Q ⟨O1, r1⟩ ⟨O2, r2⟩ zt h k
  cases d with
  | int a =>
    cases e with
    | int b =>
      obtain ⟨c, rfl⟩ := if_some h
      simp only [Bool.and_eq_true, decide_eq_true_eq] at c
      rw [r1.1, r2.1]; exact ⟨a, b, rfl, rfl, c, pr_done zt k ⟨rfl, rfl⟩⟩
    | _ => cases h
  | _ => cases h
def pMod : D → D → Option D
  | .int a, .int b => if decide (0 < b) then some (.int (a % b)) else none
  | _, _ => none
theorem pr_mod : Pr2 K (rI (fun _ j => 0 < j) fun i j => .int (i % j)) pMod := by
  intro Z H d e x y res Q ⟨O1, r1⟩ ⟨O2, r2⟩ zt h k
  cases d with
  | int a =>
    cases e with
    | int b =>
      obtain ⟨c, rfl⟩ := if_some h
      rw [r1.1, r2.1]; exact ⟨a, b, rfl, rfl, of_decide_eq_true c, pr_done zt k ⟨rfl, rfl⟩⟩
    | _ => cases h
  | _ => cases h
def CPowW (i j : Int) : Prop := 0 ≤ j ∧ (Builtin.Int.intBits i : Int) * j ≤ 2 ^ 27
theorem op_powW {X : Cx} : OpR X (binaryOp .Pow) (rI CPowW fun i j => .int (i ^ j.toNat)) := opI fun _ _ _ _ _ _ _ hc q => pow_int hc.1 hc.2 q
def pPow : D → D → Option D
  | .int a, .int b => if decide (0 ≤ b) && decide ((Builtin.Int.intBits a : Int) * b ≤ 2 ^ 27) then some (.int (a ^ b.toNat)) else none
  | _, _ => none
theorem pr_pow : Pr2 K (rI CPowW fun i j => .int (i ^ j.toNat)) pPow := by
  intro Z H d e x y res Q ⟨O1, r1⟩ ⟨O2, r2⟩ zt h k
  cases d with
  | int a =>
    cases e with
    | int b =>
      obtain ⟨c, rfl⟩ := if_some h
      simp only [Bool.and_eq_true, decide_eq_true_eq] at c
      rw [r1.1, r2.1]; exact ⟨a, b, rfl, rfl, c, pr_done zt k ⟨rfl, rfl⟩⟩
    | _ => cases h
  | _ => cases h
def pNeg : D → Option D
  | .int a => some (.int (-a))
  | _ => none
theorem pr_neg : Pr1 K (rU fun i => .int (-i)) pNeg := by
  intro Z H d x res Q ⟨O1, r1⟩ zt h k
  cases d with
  | int a => cases h; rw [r1.1]; exact ⟨a, rfl, pr_done zt k ⟨rfl, rfl⟩⟩
  | _ => cases h

/-! ### data that == compares -/
mutual
def D.py : D → Option PyData
  | .non => some .none
  | .bl b => some (.bool b)
  | .int i => some (.int i)
  | .str x => some (.str x)
  | .tup xs => (D.pyL xs).map .tuple
  | .ptu xs => (D.pyL xs).map .tuple
  | .lst _ xs => (D.pyL xs).map .list
  | _ => none
def D.pyL : List D → Option (List PyData)
  | [] => some []
  | d :: ds => match d.py, D.pyL ds with
    | some p, some ps => some (p :: ps)
    | _, _ => none
end
mutual
theorem Rep.dp {Z : Zp} {H : Hp} : ∀ {d : D} {v : V} {O : List Addr} {p : PyData}, Rep K Z H d v O → d.py = some p → Dp K H v p
  | .non, _, _, _, r, h => by cases h; rw [r.1]; exact .non
  | .bl _, _, _, _, r, h => by cases h; rw [r.1]; exact .bl _
  | .int _, _, _, _, r, h => by cases h; rw [r.1]; exact .int _
  | .str _, _, _, _, r, h => by cases h; rw [r.1]; exact .str _
  | .scr _, _, _, _, r, h => by cases h
  | .ty _, _, _, _, r, h => by cases h
  | .dct _ _, _, _, _, r, h => by cases h
  | .tup xs, _, _, _, ⟨a, vs, e, t, r⟩, h => by
    simp only [D.py] at h
    cases q : D.pyL xs with
    | none => rw [q] at h; cases h
    | some ps => rw [q] at h; cases h; rw [e]; exact .tup t.sq (RepL.dp r q)
  | .ptu xs, _, _, _, ⟨a, vs, e, t, r⟩, h => by
    simp only [D.py] at h
    cases q : D.pyL xs with
    | none => rw [q] at h; cases h
    | some ps => rw [q] at h; cases h; rw [e]; exact .tup (.of t.2) (RepL.dp r q)
  | .lst false xs, _, _, _, ⟨a, vs, e, t, r⟩, h => by
    simp only [D.py] at h
    cases q : D.pyL xs with
    | none => rw [q] at h; cases h
    | some ps => rw [q] at h; cases h; rw [e]; exact .lst (.of t.2) (RepL.dp r q)
  | .lst true xs, _, _, _, ⟨a, vs, O', e, t, _, r⟩, h => by
    simp only [D.py] at h
    cases q : D.pyL xs with
    | none => rw [q] at h; cases h
    | some ps => rw [q] at h; cases h; rw [e]; exact .lst (.of t) (RepL.dp r q)
theorem RepL.dp {Z : Zp} {H : Hp} : ∀ {ds : List D} {vs : List V} {O : List Addr} {ps : List PyData}, RepL K Z H ds vs O → D.pyL ds = some ps → DpAll K H vs ps
  | [], _, _, _, r, h => by cases h; rw [r.1]; exact .nil
  | d :: ds, _, _, _, ⟨v, ws, O1, O2, e1, e2, r1, r2⟩, h => by
    simp only [D.pyL] at h
    cases q1 : d.py with
    | none => rw [q1] at h; simp at h
    | some p =>
      cases q2 : D.pyL ds with
      | none => rw [q1, q2] at h; simp at h
      | some ps => rw [q1, q2] at h; cases h; rw [e1]; exact .cons (Rep.dp r1 q1) (RepL.dp r2 q2)
end
/-- == of data that may be compared -/
def peq (d e : D) : Option Bool := match d.py, e.py with
  | some a, some b => if SeqAt.shaped a && SeqAt.shaped b then some (PyData.eqv a b) else none
  | _, _ => none
def pEq (d e : D) : Option D := (peq d e).map .bl
def pNe (d e : D) : Option D := (peq d e).map fun b => .bl !b
theorem peq_some {d e : D} {b : Bool} (h : peq d e = some b) : ∃ p q, d.py = some p ∧ e.py = some q ∧ SeqAt.shaped p = true ∧ SeqAt.shaped q = true ∧ b = PyData.eqv p q := by
  unfold peq at h
  cases h1 : d.py with
  | none => rw [h1] at h; simp at h
  | some p =>
    cases h2 : e.py with
    | none => rw [h1, h2] at h; simp at h
    | some q =>
      rw [h1, h2] at h
      obtain ⟨c, rfl⟩ := if_some h
      simp only [Bool.and_eq_true] at c
      exact ⟨p, q, rfl, rfl, c.1, c.2, rfl⟩
theorem pr_eq : Pr2 K (rEqD K) pEq := by
  intro Z H d e x y res Q ⟨O1, r1⟩ ⟨O2, r2⟩ zt h k
  unfold pEq at h
  cases hp : peq d e with
  | none => rw [hp] at h; cases h
  | some b =>
    rw [hp] at h; cases h
    obtain ⟨p, q, h1, h2, s1, s2, rfl⟩ := peq_some hp
    exact ⟨p, q, r1.dp h1, r2.dp h2, s1, s2, pr_done zt k ⟨rfl, rfl⟩⟩
theorem pr_ne : Pr2 K (rNeD K) pNe := by
  intro Z H d e x y res Q ⟨O1, r1⟩ ⟨O2, r2⟩ zt h k
  unfold pNe at h
  cases hp : peq d e with
  | none => rw [hp] at h; cases h
  | some b =>
    rw [hp] at h; cases h
    obtain ⟨p, q, h1, h2, s1, s2, rfl⟩ := peq_some hp
    exact ⟨p, q, r1.dp h1, r2.dp h2, s1, s2, pr_done zt k ⟨rfl, rfl⟩⟩

/-! ### order of ints, of texts -/
def pOrd (f : Int → Int → Bool) (g : List Nat → List Nat → Bool) : D → D → Option D
  | .int a, .int b => some (.bl (f a b))
  | .str a, .str b => some (.bl (g a.cps.toList b.cps.toList))
  | _, _ => none
def rOrd (f : Int → Int → Bool) (g : List Nat → List Nat → Bool) : R2 := fun x y H Q => rI0 (fun i j => .bl (f i j)) x y H Q ∨ ∃ i j : Str, x = .str i ∧ y = .str j ∧ Q (.bl (g i.cps.toList j.cps.toList)) H
theorem pr_ord {f : Int → Int → Bool} {g : List Nat → List Nat → Bool} : Pr2 K (rOrd f g) (pOrd f g) := by
  intro Z H d e x y res Q ⟨O1, r1⟩ ⟨O2, r2⟩ zt h k
  cases d with
  | int a =>
    cases e with
    | int b => cases h; rw [r1.1, r2.1]; exact .inl ⟨a, b, rfl, rfl, pr_done zt k ⟨rfl, rfl⟩⟩
    | _ => cases h
  | str a =>
    cases e with
    | str b => cases h; rw [r1.1, r2.1]; exact .inr ⟨a, b, rfl, rfl, pr_done zt k ⟨rfl, rfl⟩⟩
    | _ => cases h
  | _ => cases h
abbrev fLt (i j : Int) : Bool := decide (i < j)
abbrev gLt (i j : List Nat) : Bool := decide (i < j)
abbrev fLe (i j : Int) : Bool := decide (i ≤ j)
abbrev gLe (i j : List Nat) : Bool := !decide (j < i)
abbrev fGt (i j : Int) : Bool := decide (j < i)
abbrev gGt (i j : List Nat) : Bool := decide (j < i)
abbrev fGe (i j : Int) : Bool := decide (j ≤ i)
abbrev gGe (i j : List Nat) : Bool := !decide (i < j)
theorem op_ltA {X : Cx} : OpR X (compareOp .Lt) (rOrd fLt gLt) := op_lt.or op_lt_str
theorem op_leA {X : Cx} : OpR X (compareOp .LtE) (rOrd fLe gLe) := op_le.or op_le_str
theorem op_gtA {X : Cx} : OpR X (compareOp .Gt) (rOrd fGt gGt) := op_gt.or op_gt_str
theorem op_geA {X : Cx} : OpR X (compareOp .GtE) (rOrd fGe gGe) := op_ge.or op_ge_str

/-! ### is None -/
def isNonD : D → Bool
  | .non => true
  | _ => false
def pIsN : D → D → Option D
  | d, .non => some (.bl (isNonD d))
  | _, _ => none
def pNotN : D → D → Option D
  | d, .non => some (.bl !isNonD d)
  | _, _ => none
theorem rep_non {Z : Zp} {H : Hp} {d : D} {v : V} {O : List Addr} (r : Rep K Z H d v O) : decide (v = .non) = isNonD d := by
  cases d with
  | non => rw [r.1]; rfl
  | bl b => rw [r.1]; rfl
  | int b => rw [r.1]; rfl
  | str b => rw [r.1]; rfl
  | ty b => rw [r.1]; rfl
  | tup ds => obtain ⟨a, vs, rfl, _⟩ := r; rfl
  | ptu ds => obtain ⟨a, vs, rfl, _⟩ := r; rfl
  | lst o ds => cases o with
    | false => obtain ⟨a, vs, rfl, _⟩ := r; rfl
    | true => obtain ⟨a, vs, O', rfl, _⟩ := r; rfl
  | dct o ds => cases o with
    | false => obtain ⟨a, u, vs, rfl, _⟩ := r; rfl
    | true => obtain ⟨a, u, vs, O', rfl, _⟩ := r; rfl
  | scr ns => obtain ⟨⟨a, rfl, _⟩, _⟩ := r; rfl
def rIsN : R2 := fun x y H Q => y = .non ∧ Q (.bl (decide (x = .non))) H
def rNotN : R2 := fun x y H Q => y = .non ∧ Q (.bl (!decide (x = .non))) H
theorem pr_isN : Pr2 K rIsN pIsN := by
  intro Z H d e x y res Q ⟨O1, r1⟩ ⟨O2, r2⟩ zt h k
  cases e with
  | non =>
    cases h
    refine ⟨r2.1, ?_⟩
    rw [rep_non r1]
    exact pr_done zt k ⟨rfl, rfl⟩
  | _ => cases h
theorem pr_notN : Pr2 K rNotN pNotN := by
  intro Z H d e x y res Q ⟨O1, r1⟩ ⟨O2, r2⟩ zt h k
  cases e with
  | non =>
    cases h
    refine ⟨r2.1, ?_⟩
    rw [rep_non r1]
    exact pr_done zt k ⟨rfl, rfl⟩
  | _ => cases h
end
end Yv

set_option Elab.async false
set_option linter.all false
set_option maxRecDepth 100000
set_option maxHeartbeats 4000000
/-! I10: in, subscripts, slices by values -/
namespace Yv
open PySem L2 PySem.Spec PyProof.Rows

/-! ### keys of dicts -/
def keyD : Key → D
  | .inl i => .int i
  | .inr x => .str x
/-- an int or a text as a key; a tuple of such -/
def key0 : D → Option Key
  | .int i => some (.inl i)
  | .str x => some (.inr x)
  | _ => none
def keys0 : List D → Option (List Key)
  | [] => some []
  | d :: ds => match key0 d, keys0 ds with
    | some k, some ks => some (k :: ks)
    | _, _ => none
def keyOf : D → Option Ky
  | .int i => some (.inl (.inl i))
  | .str x => some (.inl (.inr x))
  | .ptu ds => (keys0 ds).map .inr
  | _ => none
def valD (kvs : List (Ky × D)) (k : Ky) : Option D := (kvs.find? fun p => decide (p.1 = k)).map (·.2)
def simpleKs (kvs : List (Ky × D)) : Bool := kvs.all fun p => match p.1 with | .inl _ => true | .inr _ => false
section
variable {K : PySem.W.Frag} {Z : Zp} {H : Hp}
theorem key0_rep {d : D} {v : V} {O : List Addr} {k : Key} (r : Rep K Z H d v O) (h : key0 d = some k) : v = kV k := by
  cases d with
  | int i => cases h; exact r.1
  | str i => cases h; exact r.1
  | _ => cases h
theorem keys0_rep : ∀ {ds : List D} {vs : List V} {O : List Addr} {ks : List Key}, RepL K Z H ds vs O → keys0 ds = some ks → vs = ks.map kV
  | [], _, _, _, r, h => by cases h; rw [r.1]; rfl
  | d :: ds, _, _, ks, ⟨v, ws, O1, O2, e1, _, r1, r2⟩, h => by
    simp only [keys0] at h
    cases q1 : key0 d with
    | none => rw [q1] at h; simp at h
    | some k =>
      cases q2 : keys0 ds with
      | none => rw [q1, q2] at h; simp at h
      | some ks' => rw [q1, q2] at h; cases h; rw [e1, key0_rep r1 q1, keys0_rep r2 q2]; rfl
theorem RepK.find : ∀ {kvs : List (Ky × D)} {vs : List (Ky × V)} {O : List Addr}, RepK K Z H kvs vs O → ∀ (k : Ky), (valD kvs k = none ∧ (vs.find? fun p => decide (p.1 = k)) = none) ∨ ∃ d v P, valD kvs k = some d ∧ (vs.find? fun p => decide (p.1 = k)) = some (k, v) ∧ Rep K Z H d v P ∧ ∀ a ∈ P, a ∈ O
  | [], _, _, r, k => by rw [r.1]; exact .inl ⟨rfl, rfl⟩
  | (k', d) :: kvs, _, _, ⟨v, ws, O1, O2, e1, e2, r1, r2⟩, k => by
    rw [e1]
    by_cases hk : k' = k
    · subst hk
      exact .inr ⟨d, v, O1, by simp [valD, List.find?_cons], by simp [List.find?_cons], r1, fun a m => by rw [e2]; exact List.mem_append_left _ m⟩
    · rcases RepK.find r2 k with ⟨h1, h2⟩ | ⟨d', v', P, h1, h2, h3, h4⟩
      · exact .inl ⟨by simpa [valD, List.find?_cons, hk] using h1, by simpa [List.find?_cons, hk] using h2⟩
      · exact .inr ⟨d', v', P, by simpa [valD, List.find?_cons, hk] using h1, by simpa [List.find?_cons, hk] using h2, h3, fun a m => by rw [e2]; exact List.mem_append_right _ (h4 a m)⟩
theorem find_inl {ks : List (Key × V)} {k : Key} : ((ks.map fun p => ((.inl p.1 : Ky), p.2)).find? fun p => decide (p.1 = .inl k)).map (·.2) = valV ks k := by
  induction ks with
  | nil => rfl
  | cons p ks ih =>
    by_cases hk : p.1 = k
    · rw [valV_pos hk]; simp [List.find?_cons, hk]
    · rw [valV_neg hk, ← ih]
      simp [List.find?_cons, hk]
theorem find_inr {ks : List (List Key × V)} {k : List Key} : ((ks.map fun p => ((.inr p.1 : Ky), p.2)).find? fun p => decide (p.1 = .inr k)).map (·.2) = valV ks k := by
  induction ks with
  | nil => rfl
  | cons p ks ih =>
    by_cases hk : p.1 = k
    · rw [valV_pos hk]; simp [List.find?_cons, hk]
    · rw [valV_neg hk, ← ih]
      simp [List.find?_cons, hk]
/-- where a dict stands -/
theorem rep_dct {o : Bool} {kvs : List (Ky × D)} {v : V} {O : List Addr} (r : Rep K Z H (.dct o kvs) v O) : ∃ a u vs O', v = .ref a ∧ Rd H a u ∧ DctHO vs u ∧ RepK K Z H kvs vs O' := by
  cases o with
  | false => obtain ⟨a, u, vs, e, z, t, q, r⟩ := r; exact ⟨a, u, vs, O, e, .inl t, q, r⟩
  | true => obtain ⟨a, u, vs, O', e, t, q, _, r⟩ := r; exact ⟨a, u, vs, O', e, .inl t, q, r⟩
/-- the kinds of the keys: what is asked must be of the dict's kind -/
def kindOk (kvs : List (Ky × D)) : Ky → Bool
  | .inl _ => simpleKs kvs
  | .inr _ => !kvs.isEmpty && kvs.all fun p => match p.1 with | .inl _ => false | .inr _ => true
theorem RepK.keys : ∀ {kvs : List (Ky × D)} {vs : List (Ky × V)} {O : List Addr}, RepK K Z H kvs vs O → kvs.map (·.1) = vs.map (·.1)
  | [], _, _, r => by rw [r.1]; rfl
  | (k, d) :: kvs, _, _, ⟨v, ws, O1, O2, e1, e2, r1, r2⟩ => by rw [e1, List.map_cons, List.map_cons, RepK.keys r2]
/-- keys that are tuples stand in the heap -/
theorem key_tup {d : D} {y : V} {P : List Addr} (r : Rep K Z H d y P) {k : Ky} (hk : keyOf d = some k) : ∀ ks, k = .inr ks → ∃ b, y = .ref b ∧ H b = some (.tup (ks.map kV)) := fun ks e => by
  subst e
  cases d with
  | ptu ds =>
    obtain ⟨a, vs, rfl, t, rl⟩ := r
    simp only [keyOf] at hk
    cases q : keys0 ds with
    | none => rw [q] at hk; cases hk
    | some ks' =>
      rw [q] at hk; cases hk
      rw [keys0_rep rl q] at t
      exact ⟨a, rfl, t.2⟩
  | int i => cases hk
  | str i => cases hk
  | _ => cases hk
/-- a look into a dict -/
theorem dget_of {o : Bool} {kvs : List (Ky × D)} {x : V} {O : List Addr} (r : Rep K Z H (.dct o kvs) x O) {d : D} {y : V} {P : List Addr} (ry : Rep K Z H d y P) {k : Ky} (hk : keyOf d = some k) (hK : kindOk kvs k = true) : ∃ a r, x = .ref a ∧ DGet H a y r ∧ ((r = none ∧ valD kvs k = none) ∨ ∃ d v Q, r = some v ∧ valD kvs k = some d ∧ Rep K Z H d v Q) := by
  have hb := key_tup ry hk
  obtain ⟨a, u, vs, O', rfl, rd, dh, rk⟩ := rep_dct r
  have fin : ∀ {w : Option V}, w = ((vs.find? fun p => decide (p.1 = k)).map (·.2)) → ((w = none ∧ valD kvs k = none) ∨ ∃ d v Q, w = some v ∧ valD kvs k = some d ∧ Rep K Z H d v Q) := fun {w} e => by
    rcases rk.find k with ⟨h1, h2⟩ | ⟨d', v', P, h1, h2, h3, h4⟩
    · exact .inl ⟨by rw [e, h2]; rfl, h1⟩
    · exact .inr ⟨d', v', P, by rw [e, h2]; rfl, h1, h3⟩
  have keys := rk.keys
  cases k with
  | inl k =>
    have ey : y = kV k := by
      cases d with
      | int i => cases hk; exact ry.1
      | str i => cases hk; exact ry.1
      | ptu ds => simp only [keyOf] at hk; cases q : keys0 ds <;> rw [q] at hk <;> cases hk
      | _ => cases hk
    rcases dh with ⟨ks, rfl, rfl⟩ | ⟨ks, rfl, hne, rfl⟩
    · exact ⟨a, _, rfl, .inl ⟨ks, k, rd, ey, rfl⟩, fin find_inl.symm⟩
    · cases ks with
      | nil => exact absurd rfl hne
      | cons p ks =>
        exfalso
        cases kvs with
        | nil => simp at keys
        | cons q kvs =>
          simp only [List.map_cons, List.cons.injEq] at keys
          simp only [kindOk, simpleKs, List.all_cons, keys.1, Bool.false_and] at hK
          cases hK
  | inr k =>
    obtain ⟨b, ey, hb⟩ := hb k rfl
    rcases dh with ⟨ks, rfl, rfl⟩ | ⟨ks, rfl, hne, rfl⟩
    · exfalso
      cases kvs with
      | nil => simp [kindOk] at hK
      | cons q kvs =>
        cases ks with
        | nil => simp at keys
        | cons p ks =>
          simp only [List.map_cons, List.cons.injEq] at keys
          simp only [kindOk, List.all_cons, keys.1, Bool.false_and, Bool.and_false] at hK
          cases hK
    · exact ⟨a, _, rfl, .inr ⟨ks, k, b, rd, ey, hb, rfl⟩, fin find_inr.symm⟩

end
/-! ### in, not in -/
def pInSeq (d e : D) : Option Bool := match d.py, e.py with
  | some a, some (.list bs) => if SeqAt.shaped a && SeqAt.shaped (.list bs) then some (bs.any fun z => PyData.eqv z a) else none
  | some a, some (.tuple bs) => if SeqAt.shaped a && SeqAt.shaped (.tuple bs) then some (bs.any fun z => PyData.eqv z a) else none
  | _, _ => none
def pInD (d : D) (kvs : List (Ky × D)) : Option Bool := match keyOf d with
  | some k => if kindOk kvs k then some (valD kvs k).isSome else none
  | none => none
def pInS (x z : Str) : Option Bool := match x.cps.toList with
  | [c] => some (decide (c ∈ z.cps.toList))
  | _ => none
def pIn0 : D → D → Option Bool
  | d, .dct _ kvs => pInD d kvs
  | .str x, .str z => pInS x z
  | d, .tup es => pInSeq d (.tup es)
  | d, .ptu es => pInSeq d (.ptu es)
  | d, .lst o es => pInSeq d (.lst o es)
  | _, _ => none
def pIn (d e : D) : Option D := (pIn0 d e).map .bl
def pNotIn (d e : D) : Option D := (pIn0 d e).map fun b => .bl !b
def rInA (K : PySem.W.Frag) (f : Bool → Bool) : R2 := fun x y H Q =>
  (∃ d ds, Dp K H x d ∧ Dp K H y (.list ds) ∧ SeqAt.shaped d = true ∧ SeqAt.shaped (.list ds) = true ∧ Q (.bl (f (ds.any fun z => PyData.eqv z d))) H) ∨
  (∃ d ds, Dp K H x d ∧ Dp K H y (.tuple ds) ∧ SeqAt.shaped d = true ∧ SeqAt.shaped (.tuple ds) = true ∧ Q (.bl (f (ds.any fun z => PyData.eqv z d))) H) ∨
  (∃ (c : Nat) (z : Str), x = .str ⟨#[c]⟩ ∧ y = .str z ∧ Q (.bl (f (decide (c ∈ z.cps.toList)))) H) ∨
  ∃ a o, y = .ref a ∧ DGet H a x o ∧ Q (.bl (f o.isSome)) H
theorem op_inA {X : Cx} (hu : X.A.units + 65 < cLine) : OpR X (compareOp .In) (rInA X.K id) := by
  intro pins s σ H x y v u Q I rx ry h
  rcases h with h | ⟨d, ds, hd, he, sd, se, q⟩ | h | ⟨a, o, rfl, g, q⟩
  · exact op_inD hu pins s σ H x y v u Q I rx ry h
  · obtain ⟨as, r1⟩ := Dp.reads I d x v hd rx
    obtain ⟨bs, r2⟩ := Dp.reads I (.tuple ds) y u he ry
    exact SeqAt.in_tuple_reads r2 r1 (SeqAt.canLay_of_shaped se) (SeqAt.canLay_of_shaped sd) (room_in_shaped sd hu) ⟨.bl _, H, I, rfl, q⟩
  · exact op_in_sign pins s σ H x y v u Q I rx ry h
  · cases ry
    exact d_in (by omega) I g rx fun s3 I3 => ⟨.bl o.isSome, H, I3, rfl, q⟩
theorem op_notInA {X : Cx} (hu : X.A.units + 65 < cLine) : OpR X (compareOp .NotIn) (rInA X.K not) := by
  intro pins s σ H x y v u Q I rx ry h
  rcases h with h | ⟨d, ds, hd, he, sd, se, q⟩ | h | ⟨a, o, rfl, g, q⟩
  · exact op_notInD hu pins s σ H x y v u Q I rx ry h
  · obtain ⟨as, r1⟩ := Dp.reads I d x v hd rx
    obtain ⟨bs, r2⟩ := Dp.reads I (.tuple ds) y u he ry
    exact SeqAt.notIn_tuple_reads r2 r1 (SeqAt.canLay_of_shaped se) (SeqAt.canLay_of_shaped sd) (room_in_shaped sd hu) ⟨.bl _, H, I, rfl, q⟩
  · exact op_notIn_sign pins s σ H x y v u Q I rx ry h
  · cases ry
    exact d_notIn (by omega) I g rx fun s3 I3 => ⟨.bl (!o.isSome), H, I3, rfl, q⟩
section
variable {K : PySem.W.Frag}
theorem pIn_ok {f : Bool → Bool} : Pr2 K (rInA K f) fun d e => (pIn0 d e).map fun b => .bl (f b) := by
  intro Z H d e x y res Q ⟨O1, r1⟩ ⟨O2, r2⟩ zt h k
  have seq : ∀ {e' : D} {b : Bool}, pInSeq d e' = some b → Rep K Z H e' y O2 → res = .bl (f b) → rInA K f x y H Q := fun {e' b} hq r2 hr => by
    subst hr
    unfold pInSeq at hq
    cases h1 : d.py with
    | none => rw [h1] at hq; simp at hq
    | some a =>
      cases h2 : e'.py with
      | none => rw [h1, h2] at hq; simp at hq
      | some b' =>
        rw [h1, h2] at hq
        cases b' with
        | list bs =>
          obtain ⟨c, rfl⟩ := if_some hq
          simp only [Bool.and_eq_true] at c
          exact .inl ⟨a, bs, r1.dp h1, r2.dp h2, c.1, c.2, pr_done zt k ⟨rfl, rfl⟩⟩
        | tuple bs =>
          obtain ⟨c, rfl⟩ := if_some hq
          simp only [Bool.and_eq_true] at c
          exact .inr (.inl ⟨a, bs, r1.dp h1, r2.dp h2, c.1, c.2, pr_done zt k ⟨rfl, rfl⟩⟩)
        | _ => simp at hq
  have nono : ∀ {o : Option Bool}, o = none → (o.map fun b => D.bl (f b)) = some res → False := fun {o} q z => by rw [q] at z; cases z
  cases e with
  | dct o kvs =>
    have h : (pInD d kvs).map (fun b => D.bl (f b)) = some res := by cases d <;> exact h
    cases hb : pInD d kvs with
    | none => exact (nono hb h).elim
    | some b =>
      rw [hb] at h; cases h
      unfold pInD at hb
      cases hk : keyOf d with
      | none => rw [hk] at hb; cases hb
      | some ky =>
        rw [hk] at hb
        obtain ⟨c, rfl⟩ := if_some hb
        obtain ⟨a, r, rfl, g, hr⟩ := dget_of r2 r1 hk c
        refine .inr (.inr (.inr ⟨a, r, rfl, g, ?_⟩))
        have : r.isSome = (valD kvs ky).isSome := by
          rcases hr with ⟨h1, h2⟩ | ⟨d', v', P', h1, h2, _⟩
          · rw [h1, h2]; rfl
          · rw [h1, h2]; rfl
        rw [this]
        exact pr_done zt k ⟨rfl, rfl⟩
  | str z =>
    cases d with
    | str x' =>
      simp only [pIn0, pInS] at h
      split at h
      · rename_i c hc
        cases h
        rw [r1.1, r2.1]
        refine .inr (.inr (.inl ⟨c, z, ?_, rfl, pr_done zt k ⟨rfl, rfl⟩⟩))
        obtain ⟨⟨l⟩⟩ := x'
        simp only at hc
        rw [hc]
      · cases h
    | _ => cases h
  | tup es =>
    have h : (pInSeq d (.tup es)).map (fun b => D.bl (f b)) = some res := by cases d <;> exact h
    cases hb : pInSeq d (.tup es) with
    | none => exact (nono hb h).elim
    | some b => rw [hb] at h; cases h; exact seq hb r2 rfl
  | ptu es =>
    have h : (pInSeq d (.ptu es)).map (fun b => D.bl (f b)) = some res := by cases d <;> exact h
    cases hb : pInSeq d (.ptu es) with
    | none => exact (nono hb h).elim
    | some b => rw [hb] at h; cases h; exact seq hb r2 rfl
  | lst o es =>
    have h : (pInSeq d (.lst o es)).map (fun b => D.bl (f b)) = some res := by cases d <;> exact h
    cases hb : pInSeq d (.lst o es) with
    | none => exact (nono hb h).elim
    | some b => rw [hb] at h; cases h; exact seq hb r2 rfl
  | non => exact (nono (by cases d <;> rfl) h).elim
  | bl _ => exact (nono (by cases d <;> rfl) h).elim
  | int _ => exact (nono (by cases d <;> rfl) h).elim
  | scr _ => exact (nono (by cases d <;> rfl) h).elim
  | ty _ => exact (nono (by cases d <;> rfl) h).elim
theorem pr_in : Pr2 K (rInA K id) pIn := pIn_ok
theorem pr_notIn : Pr2 K (rInA K not) pNotIn := pIn_ok

/-! ### a[i] -/
def pureO (o : Option D) : Option D := o.bind fun d => if d.pure then some d else none
def pIx : D → D → Option D
  | .lst _ ds, .int i => pureO (atI ds i)
  | .tup ds, .int i => pureO (atI ds i)
  | .ptu ds, .int i => pureO (atI ds i)
  | .scr ns, .int i => (atI ns i).map .int
  | .str z, .int i => if sizeOk z.length then (atI z.cps.toList i).map fun c => .str ⟨#[c]⟩ else none
  | .dct _ kvs, k => match keyOf k with
    | some ky => if kindOk kvs ky then pureO (valD kvs ky) else none
    | none => none
  | _, _ => none
def rIxD : R2 := fun x y H Q => ∃ a v, x = .ref a ∧ DGet H a y (some v) ∧ Q v H
theorem ix_dct {X : Cx} (hu : X.A.units + 1 < cLine) : IxR X rIxD := by
  intro value slice pins s σ H x y v u Q I rx ry h hs
  obtain ⟨a, z, rfl, g, q⟩ := h
  cases rx
  exact tail_any (dict_typeIs I g) PySem.F.slot_dict_getitem.lookup (d_getItem hu I g ry fun w' s3 I3 rw' => ⟨z, H, I3, rw', q⟩) hs
def rIxA (K : PySem.W.Frag) : R2 := fun x y H Q => rIx K x y H Q ∨ rIxD x y H Q
theorem ix_all {X : Cx} (hu : X.A.units + 1 < cLine) : IxR X (rIxA X.K) := ix_seq.or (ix_dct hu)
theorem pureO_some {o : Option D} {d : D} (h : pureO o = some d) : o = some d ∧ d.pure = true := by
  unfold pureO at h
  cases o with
  | none => cases h
  | some e =>
    simp only [Option.bind_some] at h
    split at h
    · cases h; exact ⟨rfl, by assumption⟩
    · cases h
theorem atI_rep {Z : Zp} {H : Hp} {ds : List D} {vs : List V} {O : List Addr} (r : RepL K Z H ds vs O) {i : Int} {d : D} (h : atI ds i = some d) : ∃ v P, atI vs i = some v ∧ Rep K Z H d v P := by
  unfold atI at h ⊢
  rw [← r.length]
  cases q : ixN ds.length i with
  | none => rw [q] at h; cases h
  | some j =>
    rw [q] at h
    obtain ⟨v, P, h1, h2, _⟩ := r.get (i := j) (d := d) (by simpa using h)
    exact ⟨v, P, by simpa using h1, h2⟩
theorem atI_map {α β : Type} {f : α → β} {xs : List α} {i : Int} : atI (xs.map f) i = (atI xs i).map f := by
  unfold atI
  rw [List.length_map]
  cases ixN xs.length i <;> simp
theorem pr_ix : Pr2 K (rIxA K) pIx := by
  intro Z H d e x y res Q ⟨O1, r1⟩ ⟨O2, r2⟩ zt h k
  cases d with
  | lst o ds =>
    cases e with
    | int i =>
      obtain ⟨h1, hp⟩ := pureO_some h
      have : ∃ a vs O, x = .ref a ∧ H a = some (.lst vs) ∧ RepL K Z H ds vs O := by
        cases o with
        | false => obtain ⟨a, vs, e, t, r⟩ := r1; exact ⟨a, vs, _, e, t.2, r⟩
        | true => obtain ⟨a, vs, O', e, t, _, r⟩ := r1; exact ⟨a, vs, _, e, t, r⟩
      obtain ⟨a, vs, O, rfl, ha, rl⟩ := this
      obtain ⟨v, P, h2, h3⟩ := atI_rep rl h1
      rw [r2.1]
      exact .inl (.inl ⟨a, vs, i, v, rfl, rfl, .of ha, h2, pr_done zt k (h3.pureO hp)⟩)
    | _ => cases h
  | tup ds =>
    cases e with
    | int i =>
      obtain ⟨h1, hp⟩ := pureO_some h
      obtain ⟨a, vs, rfl, ta, rl⟩ := r1
      obtain ⟨v, P, h2, h3⟩ := atI_rep rl h1
      rw [r2.1]
      exact .inl (.inr (.inl ⟨a, vs, i, v, rfl, rfl, ta.sq, h2, pr_done zt k (h3.pureO hp)⟩))
    | _ => cases h
  | ptu ds =>
    cases e with
    | int i =>
      obtain ⟨h1, hp⟩ := pureO_some h
      obtain ⟨a, vs, rfl, ta, rl⟩ := r1
      obtain ⟨v, P, h2, h3⟩ := atI_rep rl h1
      rw [r2.1]
      exact .inl (.inr (.inl ⟨a, vs, i, v, rfl, rfl, (.of ta.2), h2, pr_done zt k (h3.pureO hp)⟩))
    | _ => cases h
  | scr ns =>
    cases e with
    | int i =>
      obtain ⟨⟨a, rfl, ta⟩, _⟩ := r1
      have h : (atI ns i).map D.int = some res := h
      cases q : atI ns i with
      | none => rw [q] at h; cases h
      | some n =>
        rw [q] at h; cases h
        rw [r2.1]
        exact .inl (.inl ⟨a, _, i, .int n, rfl, rfl, ta.sq, by rw [atI_map, q]; rfl, pr_done zt k ⟨rfl, rfl⟩⟩)
    | _ => cases h
  | str z =>
    cases e with
    | int i =>
      simp only [pIx] at h
      split at h
      · rename_i hz
        cases q : atI z.cps.toList i with
        | none => rw [q] at h; cases h
        | some c =>
          rw [q] at h; cases h
          rw [r1.1, r2.1]
          exact .inl (.inr (.inr ⟨z, i, c, rfl, rfl, sizeOk_le hz, q, pr_done zt k ⟨rfl, rfl⟩⟩))
      · cases h
    | _ => cases h
  | dct o kvs =>
    have h : (match keyOf e with | some ky => if kindOk kvs ky then pureO (valD kvs ky) else none | none => none) = some res := by cases e <;> exact h
    cases hk : keyOf e with
    | none => rw [hk] at h; cases h
    | some ky =>
      rw [hk] at h
      simp only at h
      split at h
      · rename_i c
        obtain ⟨h1, hp⟩ := pureO_some h
        obtain ⟨a, r, rfl, g, hr⟩ := dget_of r1 r2 hk c
        rcases hr with ⟨_, h2⟩ | ⟨d', v', P', rfl, h2, h3⟩
        · rw [h2] at h1; cases h1
        · rw [h2] at h1; cases h1
          exact .inr ⟨a, v', rfl, g, pr_done zt k (h3.pureO hp)⟩
      · cases h
  | non => cases e <;> cases h
  | bl _ => cases e <;> cases h
  | int _ => cases e <;> cases h
  | ty _ => cases e <;> cases h

/-! ### a[i:j] -/
def partO : D → Option (Option Int)
  | .non => some none
  | .int i => some (some i)
  | _ => none
def cutD {α : Type} (xs : List α) (lo hi : Option Int) : List α := (xs.drop (HT.sIx xs.length 0 lo)).take (HT.sIx xs.length xs.length hi - HT.sIx xs.length 0 lo)
def pSl (d : D) (lo hi : Option Int) : Option D := match d with
  | .lst _ ds => if D.pureL ds then some (.lst true (cutD ds lo hi)) else none
  | .tup ds => if D.pureL ds then some (.tup (cutD ds lo hi)) else none
  | .scr ns => some (.lst true ((cutD ns lo hi).map .int))
  | .str z => if sizeOk z.length then some (.str (cutS z lo hi)) else none
  | _ => none
end
end Yv

set_option Elab.async false
set_option linter.all false
set_option maxRecDepth 100000
set_option maxHeartbeats 4000000
/-! I11: slices -/
namespace Yv
open PySem L2 PySem.Spec PyProof.Rows
section
variable {K : PySem.W.Frag} {Z : Zp} {H : Hp}
theorem RepL.cut {ds : List D} {vs : List V} (p : D.pureL ds = true) (r : RepL K Z H ds vs []) (lo hi : Option Int) : RepL K Z H (cutD ds lo hi) (cutV vs lo hi) [] := by
  unfold cutD cutV
  rw [← r.length]
  exact (r.drop _ p).take _ (pureL_drop _ p)
def rSlAll (K : PySem.W.Frag) : V → Option Int → Option Int → Hp → VK → Prop := fun x lo hi H Q => rSlL K x lo hi H Q ∨ rSlY K x lo hi H Q ∨ rSlS x lo hi H Q
theorem sl_all {X : Cx} : SlR X (rSlAll X.K) := sl_list.or (sl_tupY.or sl_str)
theorem pr_sl {d : D} {x : V} {lo hi : Option Int} {res : D} {Q : VK} {O : List Addr} (r : Rep K Z H d x O) (zt : ∀ a, Z a → ∃ o, H a = some o) (h : pSl d lo hi = some res) (k : ∀ v Z' H' O, Rep K Z' H' res v O → Fresh Z H Z' H' O → Q v H') : rSlAll K x lo hi H Q := by
  cases d with
  | lst o ds =>
    obtain ⟨c, rfl⟩ := if_some h
    obtain ⟨a, vs, rfl, ha, rl⟩ := rep_lst c r
    exact .inl ⟨a, vs, rfl, .of ha, fun p hp => pr_lst zt k (rl.cut c lo hi) hp⟩
  | tup ds =>
    obtain ⟨c, rfl⟩ := if_some h
    obtain ⟨a, vs, rfl, ha, rl⟩ := rep_tup c r
    have rc := rl.cut c lo hi
    refine .inr (.inl ⟨a, vs, rfl, ha.sq, fun hw => ?_, fun hw => pr_tup zt k rc⟩)
    refine pr_done zt k ⟨a, vs, rfl, ha, ?_⟩
    have e : cutV vs lo hi = vs := by unfold cutV; rw [hw.1, hw.2]; simp
    rw [← e]; exact rc
  | scr ns =>
    cases h
    obtain ⟨⟨a, rfl, ta⟩, _⟩ := r
    refine .inl ⟨a, _, rfl, ta.sq, fun p hp => ?_⟩
    have e : cutV (ns.map V.int) lo hi = (cutD ns lo hi).map V.int := by unfold cutV cutD; rw [List.length_map, List.map_take, List.map_drop]
    rw [e]
    exact pr_lst zt k (RepL.of_ints _) hp
  | str z =>
    obtain ⟨c, rfl⟩ := if_some h
    exact .inr (.inr ⟨z, r.1, sizeOk_le c, pr_done zt k ⟨rfl, rfl⟩⟩)
  | _ => cases h
end
def mPart0 : Mn (Option Int) := fun δ => .ok none δ
def mPart (m : Mn A) : Mn (Option Int) := fun δ => (m δ).bind fun a δ1 => match resA δ1 a with
  | some (.int i) => .ok (some i) δ1
  | _ => .fail
def mSl (ma : Mn A) (ml mh : Mn (Option Int)) : Mn A := fun δ => (ma δ).bind fun a δ1 => (ml δ1).bind fun lo δ2 => (mh δ2).bind fun hi δ3 => match resA δ3 a with
  | some d => ofO (pSl d lo hi) δ3
  | none => .fail
def tP (w : Wc) (m : Mn (Option Int)) : TO := fun σ H Q => ∃ Z δ F, ER w.K Z H δ σ F ∧ match m δ with
  | .ok o δ' => ∀ Z' H' F', ER w.K Z' H' δ' σ F' → Post Z H (Pf F) Z' H' (Pf F') → Q o H'
  | .exc x δ' => xOut w σ Z H F x δ'
  | .fail => False
section
variable {w : Wc} {σ : L2.St} {H : Hp}
theorem tPart0 {Q : Option Int → Hp → Prop} (h : tP w mPart0 σ H Q) : tNoPart σ H Q := by
  obtain ⟨Z, δ, F, e, h⟩ := h
  exact h Z H F e .refl
theorem tPart1 {m : Mn A} {Q : Option Int → Hp → Prop} (h : tP w (mPart m) σ H Q) : tPart (tA w m) σ H Q := by
  obtain ⟨Z, δ, F, e, h⟩ := h
  refine ⟨Z, δ, F, e, ?_⟩
  unfold mPart at h
  cases qa : m δ with
  | fail => rw [qa] at h; exact h
  | exc x δ1 => rw [qa] at h; exact h
  | ok a δ1 =>
    rw [qa] at h
    simp only [R.bind_ok] at h
    intro v Z1 H1 F1 O e1 r1 t1 p1
    cases ra : resA δ1 a with
    | none => rw [ra] at h; exact h.elim
    | some d =>
      rw [ra] at h
      cases d with
      | int i =>
        obtain ⟨P, rp⟩ := e1.opnd r1 ra
        exact ⟨i, rp.1, h Z1 H1 F1 e1 (p1.drop fun a z => .inl z)⟩
      | _ => exact h.elim
theorem tSl' {ma : Mn A} {ml mh : Mn (Option Int)} {Q : VK} {tl th : TO} (hl : ∀ Q σ H, tP w ml σ H Q → tl σ H Q) (hh : ∀ Q σ H, tP w mh σ H Q → th σ H Q) (h : tA w (mSl ma ml mh) σ H Q) : tSl (rSlAll w.K) (tA w ma) tl th σ H Q := by
  obtain ⟨Z, δ, F, e, h⟩ := h
  refine ⟨Z, δ, F, e, ?_⟩
  unfold mSl at h
  cases qa : ma δ with
  | fail => rw [qa] at h; exact h
  | exc x δ1 => rw [qa] at h; exact h
  | ok a δ1 =>
    rw [qa] at h
    simp only [R.bind_ok] at h
    intro v Z1 H1 F1 O e1 r1 t1 p1
    refine hl _ _ _ ⟨Z1, δ1, F1, e1, ?_⟩
    cases ql : ml δ1 with
    | fail => rw [ql] at h; exact h
    | exc x δ2 => rw [ql] at h; exact xOut_on h p1 fun _ z => .inl z
    | ok lo δ2 =>
      rw [ql] at h
      simp only [R.bind_ok] at h
      intro Z2 H2 F2 e2 p2
      have p12 := p1.then p2
      have tr1 := r1.trk
      have r1' : RepA w.K Z2 H2 σ a v O := r1.mono (p2.zx e1.zP) (t1.stays p2)
      have t1' : Tmp Z2 F2 O := t1.on tr1 p2 fun i a m => ⟨i, m⟩
      refine hh _ _ _ ⟨Z2, δ2, F2, e2, ?_⟩
      cases qh : mh δ2 with
      | fail => rw [qh] at h; exact h
      | exc x δ3 => rw [qh] at h; exact xOut_on h p12 fun _ z => .inl z
      | ok hi δ3 =>
        rw [qh] at h
        simp only [R.bind_ok] at h
        intro Z3 H3 F3 e3 p3
        have p13 := p12.then p3
        have r1'' : RepA w.K Z3 H3 σ a v O := r1'.mono (p3.zx e2.zP) (t1'.stays p3)
        cases ra : resA δ3 a with
        | none => rw [ra] at h; exact h.elim
        | some d =>
          rw [ra] at h
          obtain ⟨P, rp⟩ := e3.opnd r1'' ra
          cases hr : pSl d lo hi with
          | none => simp only [hr, ofO] at h
          | some res =>
            simp only [hr, ofO] at h
            exact pr_sl rp e3.zt hr fun v Z4 H4 O4 r4 f4 => fin_made h e3 p13 (fun a z => .inl z) r4 f4
end

/-! ### a[::-1] -/
section
variable {prog : Program} {w : World} {A : Around} {E : Value → Shared → Prop} {s : Shared}
theorem adjust_rev (n : Nat) : Builtin.Slice.sliceAdjust none none (-1) (n : Int) = ((n : Int) - 1, -1) := by
  unfold Builtin.Slice.sliceAdjust
  simp
theorem places_rev (n : Nat) : Builtin.Slice.slicePlaces ((n : Int) - 1) (-1) (-1) = n := by
  unfold Builtin.Slice.slicePlaces
  simp
  try omega
theorem sliceApplied_rev {sl : Addr} {vs : Value} {n : Nat} {Q : Int × Int × Nat → Shared → Prop} (hs : s.heap.IsSliceOf sl .none .none vs) (ps : IsPart vs (some (-1)))
    (h : Q ((n : Int) - 1, -1, n) s) : wpAny (model prog w) A (Builtin.Slice.sliceApplied (.ref sl) (pure (n : Int))) Q E s := by
  obtain ⟨os, hos, hcs, hds⟩ := id hs
  unfold Builtin.Slice.sliceApplied Builtin.Slice.sliceFields
  refine wpAny_bind (wpAny_bind (wpAny_field hos hds (x := .none) rfl (wpAny_bind (wpAny_field hos hds (x := .none) rfl (wpAny_bind (wpAny_field hos hds (x := vs) rfl (wpAny_pure ?_)))))))
  refine wpAny_bind (HT.slicePart_ ps ?_)
  show wpAny _ _ (if ((-1 : Int) == 0) = true then _ else _) _ _ s
  rw [if_neg (by decide)]
  refine wpAny_bind (slicePart_none (wpAny_bind (slicePart_none (wpAny_bind (wpAny_pure ?_)))))
  show wpAny _ _ (match Builtin.Slice.sliceAdjust none none (-1) (n : Int) with | (lo, hi) => pure (lo, (-1 : Int), Builtin.Slice.slicePlaces lo hi (-1))) _ _ s
  rw [adjust_rev n]
  show wpAny _ _ (pure ((n : Int) - 1, (-1 : Int), Builtin.Slice.slicePlaces ((n : Int) - 1) (-1) (-1))) _ _ s
  rw [places_rev]
  exact wpAny_pure h
theorem pick_rev (xs : Array Value) : ((List.range xs.size).filterMap fun (m : Nat) => xs[(((xs.size : Nat) : Int) - 1 + (m : Int) * -1).toNat]?).toArray = xs.toList.reverse.toArray := by
  congr 1
  have e : ∀ m ∈ List.range xs.size, (fun (m : Nat) => xs[(((xs.size : Nat) : Int) - 1 + (m : Int) * -1).toNat]?) m = some (xs.toList.reverse.getD m .none) := fun m hm => by
    have hm : m < xs.size := List.mem_range.mp hm
    have e1 : (((xs.size : Nat) : Int) - 1 + (m : Int) * -1).toNat = xs.size - 1 - m := by omega
    simp only [e1]
    rw [List.getD_eq_getElem?_getD, List.getElem?_reverse (by simpa using hm)]
    have hlt : xs.size - 1 - m < xs.size := by omega
    simp [hlt]
  have : (List.range xs.size).filterMap (fun (m : Nat) => xs[(((xs.size : Nat) : Int) - 1 + (m : Int) * -1).toNat]?) = (List.range xs.size).map fun m => xs.toList.reverse.getD m .none := by
    have aux : ∀ (l : List Nat), (∀ m ∈ l, (fun (m : Nat) => xs[(((xs.size : Nat) : Int) - 1 + (m : Int) * -1).toNat]?) m = some (xs.toList.reverse.getD m .none)) → l.filterMap (fun (m : Nat) => xs[(((xs.size : Nat) : Int) - 1 + (m : Int) * -1).toNat]?) = l.map fun m => xs.toList.reverse.getD m .none := by
      intro l
      induction l with
      | nil => intro _; rfl
      | cons m l ih =>
        intro h
        have hm := h m (by simp)
        simp only at hm
        rw [List.filterMap_cons, hm, List.map_cons, ih fun k hk => h k (List.mem_cons_of_mem _ hk)]
    exact aux _ e
  rw [this]
  refine List.ext_getElem? fun i => ?_
  by_cases hi : i < xs.size
  · rw [List.getElem?_map, List.getElem?_range hi]
    simp only [Option.map_some]
    rw [List.getD_eq_getElem?_getD, List.getElem?_eq_getElem (by simpa using hi)]
    rfl
  · rw [List.getElem?_eq_none (by simpa using hi), List.getElem?_eq_none (by simpa using hi)]
theorem getItem_tuple_rev {t sl : Addr} {items : Array Value} {vs : Value} {Q : Value → Shared → Prop} (ht : IsTup s.heap t items) (hs : s.heap.IsSliceOf sl .none .none vs) (ps : IsPart vs (some (-1)))
    (h : Q (.ref s.heap.objs.size) { s with heap := s.heap.push { cls := .type "tuple", data := .seq items.toList.reverse.toArray } })
    (hsz : items.size ≤ sizeLine) : wpAny (model prog w) A (getItem (.ref t) (.ref sl)) Q E s := by
  have htake : PySem.sizeOk (.seq items.toList.reverse.toArray) := by
    show items.toList.reverse.toArray.size ≤ sizeLine
    simpa using hsz
  obtain ⟨os, hos, hcs, hds⟩ := id hs
  have hTs : s.TypeIs (.ref sl) "slice" := ⟨os, hos, hcs⟩
  unfold getItem
  try with_reducible refine wpAny_holding ?_
  first | refine wpAny_bind (wpAny_pure ?_) | skip
  refine wpAny_bind (wpAny_sequenceKey ht.typeIs (by decide) ?_)
  refine wpAny_bind (wpAny_callSpecial?_slot (name := Str.ofString "__getitem__") ht.typeIs PyProof.Rows.slot_tuple_getitem
    (wpAny_call_entry PyProof.Rows.slot_tuple_getitem ht.typeIs entry_tuple_getitem ?_ (args_tuple_getitem _ _)))
  show wpAny _ _ (Builtin.Tuple.tupleItemsOf (.ref t) >>= _) _ _ s
  refine wpAny_bind (tupleItemsOf_ ht ?_)
  refine wpAny_bind (wpAny_typeOf hTs ?_)
  rw [if_pos (by decide)]
  refine wpAny_bind (sliceApplied_rev hs ps ?_)
  have hno : ¬ ((((items.size : Nat) : Int) - 1 == 0 && (-1 : Int) == 1 && items.size == items.size) = true) := by
    intro q
    rw [Bool.and_eq_true, Bool.and_eq_true] at q
    exact absurd q.1.2 (by decide)
  show wpAny _ _ (if (((items.size : Nat) : Int) - 1 == 0 && (-1 : Int) == 1 && items.size == items.size) = true then _ else _) _ _ s
  rw [if_neg hno, pick_rev]
  first
    | exact wpAny_bind (m := Builtin.Tuple.tupleExact _) (wpAny_newObj_type (wpAny_pure ⟨_, rfl, wpAny_pure h⟩) htake)
    | exact wpAny_bind (m := Builtin.Tuple.tupleExact _) (wpAny_newObj_type (wpAny_bind (wpAny_pure (wpAny_pure ⟨_, rfl, wpAny_pure h⟩))) htake)
    | exact wpAny_bind (wpAny_bind (m := Builtin.Tuple.tupleExact _) (wpAny_newObj_type (wpAny_pure (wpAny_pure ⟨_, rfl, wpAny_pure h⟩)) htake))
    | exact wpAny_bind (wpAny_bind (m := Builtin.Tuple.tupleExact _) (wpAny_newObj_type (wpAny_pure ⟨_, rfl, wpAny_pure h⟩) htake))
end
def rRev (K : PySem.W.Frag) : V → Hp → VK → Prop := fun x H Q => ∃ a xs, x = .ref a ∧ ((SqL K H a xs ∧ ∀ p, H p = none → Q (.ref p) (upd H p (.lst xs.reverse))) ∨ (SqT K H a xs ∧ NewT H xs.reverse Q))
theorem pe_rev {X : Cx} {e : Expr} {te : TE} {k : Nat} {p1 p2 p3 pos : Pos} (he : PE X e te) : PE X (.Subscript e (.Slice none none (some (.UnaryOp .USub (.Constant (.int 1) k p1) p2)) p3) pos) (tUn (rRev X.K) te) := by
  refine ⟨fun pins s σ H Q I h => ?_⟩
  refine Subscript_ (thn (he.run pins s σ H _ I h) fun v s1 ⟨x, H1, I1, r1, q1⟩ => ?_)
  obtain ⟨a, xs, ex, q⟩ := q1
  subst ex
  cases r1
  have hst : PO X (some (.UnaryOp .USub (.Constant (.int 1) k p1) p2)) (L2.tPart (tUn (rU fun i => .int (-i)) (tC (.int 1)))) := po_some (pe_un un_neg pe_int)
  refine wpAny_Slice (thn (po_none.run pins s1 σ H1 (fun o H2 => o = none ∧ H2 = H1) I1 ⟨rfl, rfl⟩) fun vl s2 ⟨l, H2, I2, pl, el, e2⟩ => ?_)
  subst el e2
  refine thn (po_none.run pins s2 σ H2 (fun o H3 => o = none ∧ H3 = H2) I2 ⟨rfl, rfl⟩) fun vu s3 ⟨u, H3, I3, pu, eu, e3⟩ => ?_
  subst eu e3
  refine thn (hst.run pins s3 σ H3 (fun o H4 => o = some (-1) ∧ H4 = H3) I3 ⟨1, rfl, -1, rfl, rfl, rfl⟩) fun vs s4 ⟨o, H4, I4, ps, eo, e4⟩ => ?_
  subst eo e4
  have I5 : Inv X pins σ H4 { s4 with heap := s4.heap.push { cls := .type "slice", data := .fields #[vl, vu, vs] } } := I4.kept (t' := s4.toks) fun b ob q => Heap.get?_push_of_some _ q
  show wpAny (model X.prog X.w) X.A (subscriptTail e (.Slice none none (some (.UnaryOp .USub (.Constant (.int 1) k p1) p2)) p3) (.ref a) (.ref s4.heap.objs.size)) (EP X pins σ Q) X.xe { s4 with heap := s4.heap.push { cls := .type "slice", data := .fields #[vl, vu, vs] } }
  rcases q with ⟨hx, q⟩ | ⟨hx, q⟩
  · obtain ⟨its, r, ht, hz⟩ := I5.list hx
    have hlen := r.length
    refine tail_any (ops := [.ref a, .ref s4.heap.objs.size]) ht.isList.typeIs (PySem.slot_list_getitem.lookup) ?_ (by with_unfolding_all rfl)
    refine wpAny_getItem_list_slice ht.isList (Heap.IsSliceOf.new _ vl vu vs) pl pu ps (by decide) ?_ (by rw [List.size_toArray]; omega)
    rw [PySem.W.krv_pick]
    refine ⟨.ref _, _, I5.laid (t' := s4.toks) (o := .lst xs.reverse) (fun b ob q => Heap.get?_push_of_some _ q) (Nat.le_refl _) ?_, rfl, q _ (I5.hok.fresh (Nat.le_refl _))⟩
    exact ⟨by rw [List.length_reverse]; exact hz, _, 0, r.reverse, Heap.get?_push_size _ rfl⟩
  · obtain ⟨its, r, ht, hz⟩ := I5.tuple hx
    have hlen := r.length
    refine tail_any (ops := [.ref a, .ref s4.heap.objs.size]) ht.typeIs (PyProof.Rows.slot_tuple_getitem.lookup) ?_ (by with_unfolding_all rfl)
    have el : vl = .none := by cases pl; rfl
    have eu : vu = .none := by cases pu; rfl
    subst el eu
    refine getItem_tuple_rev ht (Heap.IsSliceOf.new _ _ _ vs) ps ?_ (by rw [List.size_toArray]; omega)
    exact newT_at (t := s4.toks) I5 (fun b ob q => Heap.get?_push_of_some _ q) (Nat.le_refl _) r.reverse (by rw [List.length_reverse]; exact hz) (Heap.get?_push_size _ rfl) rfl rfl rfl q
def pRev : D → Option D
  | .lst _ ds => if D.pureL ds then some (.lst true ds.reverse) else none
  | .tup ds => if D.pureL ds then some (.tup ds.reverse) else none
  | _ => none
theorem pr_rev {K : PySem.W.Frag} : Pr1 K (rRev K) pRev := by
  intro Z H d x res Q ⟨O1, r1⟩ zt h k
  cases d with
  | lst o ds =>
    obtain ⟨c, rfl⟩ := if_some h
    obtain ⟨a, vs, rfl, ha, rl⟩ := rep_lst c r1
    exact ⟨a, vs, rfl, .inl ⟨.of ha, fun p hp => pr_lst zt k (rl.reverse c) hp⟩⟩
  | tup ds =>
    obtain ⟨c, rfl⟩ := if_some h
    obtain ⟨a, vs, rfl, ha, rl⟩ := rep_tup c r1
    exact ⟨a, vs, rfl, .inr ⟨ha.sq, pr_tup zt k (rl.reverse c)⟩⟩
  | _ => cases h
end Yv

set_option Elab.async false
set_option linter.all false
set_option maxRecDepth 100000
set_option maxHeartbeats 4000000
/-! I12: built-in functions by values -/
namespace Yv
open PySem L2 PySem.Spec PyProof.Rows

theorem CallR.orY {X : Cx} {f : Value} {r r' : List V → Hp → VK → Prop} (h : CallR X f r) (h' : CallR X f r') : CallR X f (fun xs H Q => r xs H Q ∨ r' xs H Q) := by
  intro pins s σ H xs us Q I rs q
  rcases q with q | q
  · exact h pins s σ H xs us Q I rs q
  · exact h' pins s σ H xs us Q I rs q

/-! ### the items of lists, tuples -/
def itL : D → Option (List D)
  | .lst _ ds => if D.pureL ds then some ds else none
  | .scr ns => some (ns.map .int)
  | _ => none
def itT : D → Option (List D)
  | .tup ds => if D.pureL ds then some ds else none
  | _ => none
def itS (d : D) : Option (List D) := (itL d).or (itT d)
def intsOf : List D → Option (List Int)
  | [] => some []
  | .int i :: ds => (intsOf ds).map (i :: ·)
  | _ :: _ => none
def blsOf : List D → Option (List Bool)
  | [] => some []
  | .bl i :: ds => (blsOf ds).map (i :: ·)
  | _ :: _ => none
theorem intsOf_eq : ∀ {ds : List D} {ns : List Int}, intsOf ds = some ns → ds = ns.map D.int
  | [], ns, h => by cases h; rfl
  | d :: ds, ns, h => by
    cases d with
    | int i =>
      simp only [intsOf] at h
      cases q : intsOf ds with
      | none => rw [q] at h; cases h
      | some ms => rw [q] at h; cases h; rw [intsOf_eq q]; rfl
    | _ => cases h
theorem blsOf_eq : ∀ {ds : List D} {ns : List Bool}, blsOf ds = some ns → ds = ns.map D.bl
  | [], ns, h => by cases h; rfl
  | d :: ds, ns, h => by
    cases d with
    | bl i =>
      simp only [blsOf] at h
      cases q : blsOf ds with
      | none => rw [q] at h; cases h
      | some ms => rw [q] at h; cases h; rw [blsOf_eq q]; rfl
    | _ => cases h
@[simp] theorem intsOf_map (ns : List Int) : intsOf (ns.map D.int) = some ns := by
  induction ns with
  | nil => rfl
  | cons n ns ih => simp [intsOf, ih]
@[simp] theorem blsOf_map (ns : List Bool) : blsOf (ns.map D.bl) = some ns := by
  induction ns with
  | nil => rfl
  | cons n ns ih => simp [blsOf, ih]
section
variable {K : PySem.W.Frag} {Z : Zp} {H : Hp}
theorem itL_rep {d : D} {ds : List D} {v : V} {O : List Addr} (r : Rep K Z H d v O) (h : itL d = some ds) : ∃ a vs, v = .ref a ∧ SqL K H a vs ∧ RepL K Z H ds vs [] ∧ D.pureL ds = true := by
  cases d with
  | lst o xs =>
    obtain ⟨c, rfl⟩ := if_some h
    obtain ⟨a, vs, e, ha, rl⟩ := rep_lst c r
    exact ⟨a, vs, e, .of ha, rl, c⟩
  | scr ns =>
    cases h
    obtain ⟨⟨a, e, t⟩, _⟩ := r
    exact ⟨a, _, e, t.sq, RepL.of_ints ns, pureL_ints ns⟩
  | _ => cases h
theorem itT_rep {d : D} {ds : List D} {v : V} {O : List Addr} (r : Rep K Z H d v O) (h : itT d = some ds) : ∃ a vs, v = .ref a ∧ TupAt K Z H a vs ∧ RepL K Z H ds vs [] ∧ D.pureL ds = true := by
  cases d with
  | tup xs =>
    obtain ⟨c, rfl⟩ := if_some h
    obtain ⟨a, vs, e, ha, rl⟩ := rep_tup c r
    exact ⟨a, vs, e, ha, rl, c⟩
  | _ => cases h
theorem or_some {α : Type} {a b : Option α} {c : α} (h : a.or b = some c) : a = some c ∨ (a = none ∧ b = some c) := by
  cases a with
  | some x => cases h; exact .inl rfl
  | none => exact .inr ⟨rfl, h⟩
theorem itS_rep {d : D} {ds : List D} {v : V} {O : List Addr} (r : Rep K Z H d v O) (h : itS d = some ds) : ∃ a vs, v = .ref a ∧ (SqL K H a vs ∨ SqT K H a vs) ∧ RepL K Z H ds vs [] ∧ D.pureL ds = true := by
  rcases or_some h with h | ⟨_, h⟩
  · obtain ⟨a, vs, e, q, r1, r2⟩ := itL_rep r h; exact ⟨a, vs, e, .inl q, r1, r2⟩
  · obtain ⟨a, vs, e, q, r1, r2⟩ := itT_rep r h; exact ⟨a, vs, e, .inr q.sq, r1, r2⟩
theorem dvs1 {d : D} {xs : List V} (h : DVs K Z H [d] xs) : ∃ x O, xs = [x] ∧ Rep K Z H d x O := by
  obtain ⟨v, ws, rfl, ⟨O, r⟩, e⟩ := h
  exact ⟨v, O, by rw [show ws = [] from e], r⟩
theorem dvs2 {d e : D} {xs : List V} (h : DVs K Z H [d, e] xs) : ∃ x y O P, xs = [x, y] ∧ Rep K Z H d x O ∧ Rep K Z H e y P := by
  obtain ⟨v, ws, rfl, ⟨O, r⟩, w, us, rfl, ⟨P, q⟩, e⟩ := h
  exact ⟨v, w, O, P, by rw [show us = [] from e], r, q⟩

/-! ### len -/
def lenD : D → Option Nat
  | .str x => if sizeOk x.length then some x.length else none
  | .tup ds => some ds.length
  | .lst _ ds => some ds.length
  | .scr ns => some ns.length
  | .dct _ kvs => some kvs.length
  | _ => none
def pLen : List D → Option D
  | [d] => (lenD d).map fun (n : Nat) => .int n
  | _ => none
def rLenA (K : PySem.W.Frag) : List V → Hp → VK → Prop := fun xs H Q =>
  (∃ x n, xs = [x] ∧ LenV K x H n ∧ Q (.int (n : Nat)) H) ∨ (∃ a kvs, xs = [V.ref a] ∧ H a = some (.dK kvs) ∧ Q (.int (kvs.length : Nat)) H) ∨ rLenT xs H Q
theorem call_lenA {X : Cx} : CallR X (.builtin "len") (rLenA X.K) := CallR.orY call_len (CallR.orY call_lenD call_len_dT)
theorem rep_dctH {o : Bool} {kvs : List (Ky × D)} {v : V} {O : List Addr} (r : Rep K Z H (.dct o kvs) v O) : ∃ a u vs O', v = .ref a ∧ H a = some u ∧ DctHO vs u ∧ RepK K Z H kvs vs O' := by
  cases o with
  | false => obtain ⟨a, u, vs, e, z, t, q, r⟩ := r; exact ⟨a, u, vs, O, e, t, q, r⟩
  | true => obtain ⟨a, u, vs, O', e, t, q, _, r⟩ := r; exact ⟨a, u, vs, O', e, t, q, r⟩
theorem pr_len : PrL K (rLenA K) pLen := by
  intro Z H ds xs res Q dv zt h k
  unfold pLen at h
  split at h
  · rename_i d
    obtain ⟨x, O, rfl, r⟩ := dvs1 dv
    cases d with
    | str x =>
      rw [r.1]
      simp only [lenD] at h
      split at h
      · rename_i c
        cases h
        exact .inl ⟨_, _, rfl, ⟨sizeOk_le c, rfl⟩, pr_done zt k ⟨rfl, rfl⟩⟩
      · cases h
    | tup ds =>
      obtain ⟨a, vs, rfl, t, rl⟩ := r
      cases h
      exact .inl ⟨_, _, rfl, .inr ⟨vs, t.sq, rfl⟩, by rw [← rl.length]; exact pr_done zt k ⟨rfl, rfl⟩⟩
    | lst o ds =>
      cases h
      cases o with
      | false =>
        obtain ⟨a, vs, rfl, t, rl⟩ := r
        exact .inl ⟨_, _, rfl, .inl ⟨vs, .of t.2, rfl⟩, by rw [← rl.length]; exact pr_done zt k ⟨rfl, rfl⟩⟩
      | true =>
        obtain ⟨a, vs, O', rfl, t, _, rl⟩ := r
        exact .inl ⟨_, _, rfl, .inl ⟨vs, .of t, rfl⟩, by rw [← rl.length]; exact pr_done zt k ⟨rfl, rfl⟩⟩
    | scr ns =>
      obtain ⟨⟨a, rfl, t⟩, _⟩ := r
      cases h
      exact .inl ⟨_, _, rfl, .inl ⟨_, t.sq, rfl⟩, by rw [List.length_map]; exact pr_done zt k ⟨rfl, rfl⟩⟩
    | dct o kvs =>
      cases h
      obtain ⟨a, u, vs, O', rfl, ha, dh, rk⟩ := rep_dctH r
      have hl : kvs.length = vs.length := by have := congrArg List.length rk.keys; simpa using this
      rcases dh with ⟨ks, rfl, e⟩ | ⟨ks, rfl, _, e⟩
      · refine .inr (.inl ⟨a, ks, rfl, ha, ?_⟩)
        have : ks.length = kvs.length := by rw [hl, e, List.length_map]
        rw [this]
        exact pr_done zt k ⟨rfl, rfl⟩
      · refine .inr (.inr ⟨a, ks, rfl, ha, ?_⟩)
        have : ks.length = kvs.length := by rw [hl, e, List.length_map]
        rw [this]
        exact pr_done zt k ⟨rfl, rfl⟩
    | _ => cases h
  · cases h

/-! ### tuple(x), list(x) -/
def pTupOf : List D → Option D
  | [d] => (itS d).map .tup
  | _ => none
theorem pr_tupOf : PrL K (rTupOf K) pTupOf := by
  intro Z H ds xs res Q dv zt h k
  unfold pTupOf at h
  split at h
  · rename_i d
    obtain ⟨x, O, rfl, r⟩ := dvs1 dv
    cases q : itS d with
    | none => rw [q] at h; cases h
    | some es =>
      rw [q] at h; cases h
      rcases or_some q with q | ⟨_, q⟩
      · obtain ⟨a, vs, rfl, sq, rl, _⟩ := itL_rep r q
        exact ⟨a, vs, rfl, .inl ⟨sq, pr_tup zt k rl⟩⟩
      · obtain ⟨a, vs, rfl, sq, rl, _⟩ := itT_rep r q
        exact ⟨a, vs, rfl, .inr ⟨sq.sq, pr_done zt k ⟨a, vs, rfl, sq, rl⟩⟩⟩
  · cases h
def pLstOf : List D → Option D
  | [d] => (itS d).map (.lst true)
  | _ => none
def rLstOf (K : PySem.W.Frag) : List V → Hp → VK → Prop := fun xs H Q => ∃ p ys, xs = [.ref p] ∧ (SqL K H p ys ∨ SqT K H p ys) ∧ ∀ l, H l = none → Q (.ref l) (upd H l (.lst ys))
theorem pr_lstOf : PrL K (rLstOf K) pLstOf := by
  intro Z H ds xs res Q dv zt h k
  unfold pLstOf at h
  split at h
  · rename_i d
    obtain ⟨x, O, rfl, r⟩ := dvs1 dv
    cases q : itS d with
    | none => rw [q] at h; cases h
    | some es =>
      rw [q] at h; cases h
      obtain ⟨a, vs, rfl, sq, rl, _⟩ := itS_rep r q
      exact ⟨a, vs, rfl, sq, fun p hp => pr_lst zt k rl hp⟩
  · cases h

/-! ### all, any, sum, max, min of a list -/
def lB (f : List Bool → Bool) : List D → Option D
  | [d] => match itL d with
    | some es => (blsOf es).map fun bs => .bl (f bs)
    | none => none
  | _ => none
def lI (f : List Int → Option Int) : List D → Option D
  | [d] => match itL d with
    | some es => match intsOf es with
      | some ns => (f ns).map .int
      | none => none
    | none => none
  | _ => none
theorem lB_some {f : List Bool → Bool} {ds : List D} {xs : List V} {res : D} (dv : DVs K Z H ds xs) (h : lB f ds = some res) : ∃ a bs, xs = [.ref a] ∧ SqL K H a (bs.map V.bl) ∧ res = .bl (f bs) := by
  unfold lB at h
  split at h
  · rename_i d
    obtain ⟨x, O, rfl, r⟩ := dvs1 dv
    cases q : itL d with
    | none => rw [q] at h; cases h
    | some es =>
      rw [q] at h
      obtain ⟨a, vs, rfl, sq, rl, _⟩ := itL_rep r q
      cases q2 : blsOf es with
      | none => simp [q2] at h
      | some bs =>
        simp only [q2, Option.map_some, Option.some.injEq] at h
        have := blsOf_eq q2
        subst this
        rw [rl.bls] at sq
        exact ⟨a, bs, rfl, sq, h.symm⟩
  · cases h
theorem lI_some {f : List Int → Option Int} {ds : List D} {xs : List V} {res : D} (dv : DVs K Z H ds xs) (h : lI f ds = some res) : ∃ a ns m, xs = [.ref a] ∧ SqL K H a (ns.map V.int) ∧ f ns = some m ∧ res = .int m := by
  unfold lI at h
  split at h
  · rename_i d
    obtain ⟨x, O, rfl, r⟩ := dvs1 dv
    cases q : itL d with
    | none => rw [q] at h; cases h
    | some es =>
      rw [q] at h
      obtain ⟨a, vs, rfl, sq, rl, _⟩ := itL_rep r q
      cases q2 : intsOf es with
      | none => simp [q2] at h
      | some bs =>
        cases q3 : f bs with
        | none => simp [q2, q3] at h
        | some m =>
          simp only [q2, q3, Option.map_some, Option.some.injEq] at h
          have := intsOf_eq q2
          subst this
          rw [rl.ints] at sq
          exact ⟨a, bs, m, rfl, sq, q3, h.symm⟩
  · cases h
abbrev fAll (bs : List Bool) : Bool := bs.all id
abbrev fAny (bs : List Bool) : Bool := bs.any id
theorem pr_all : PrL K (rAll K) (lB fAll) := by
  intro Z H ds xs res Q dv zt h k
  obtain ⟨a, bs, rfl, sq, rfl⟩ := lB_some dv h
  exact ⟨a, bs, rfl, sq, pr_done zt k ⟨rfl, rfl⟩⟩
theorem pr_any : PrL K (rAny K) (lB fAny) := by
  intro Z H ds xs res Q dv zt h k
  obtain ⟨a, bs, rfl, sq, rfl⟩ := lB_some dv h
  exact ⟨a, bs, rfl, sq, pr_done zt k ⟨rfl, rfl⟩⟩
def fSum (ns : List Int) : Option Int := some ns.sum
theorem pr_sum : PrL K (rSum K) (lI fSum) := by
  intro Z H ds xs res Q dv zt h k
  obtain ⟨a, ns, m, rfl, sq, e, rfl⟩ := lI_some dv h
  cases e
  exact ⟨a, ns, rfl, sq, pr_done zt k ⟨rfl, rfl⟩⟩
def fMax : List Int → Option Int
  | [] => none
  | n :: ns => some (ns.foldl max n)
def fMin : List Int → Option Int
  | [] => none
  | n :: ns => some (ns.foldl min n)
theorem foldl_max_ge (ns : List Int) : ∀ n, n ≤ ns.foldl max n ∧ (∀ x ∈ ns, x ≤ ns.foldl max n) ∧ (ns.foldl max n = n ∨ ns.foldl max n ∈ ns) := by
  induction ns with
  | nil => intro n; simp
  | cons m ns ih =>
    intro n
    obtain ⟨h1, h2, h3⟩ := ih (max n m)
    simp only [List.foldl_cons]
    refine ⟨by omega, fun x hx => ?_, ?_⟩
    · rcases List.mem_cons.mp hx with rfl | hx
      · omega
      · exact h2 x hx
    · rcases h3 with h3 | h3
      · rw [h3]
        by_cases c : n ≤ m
        · right; rw [Int.max_eq_right c]; simp
        · left; exact Int.max_eq_left (by omega)
      · right; exact List.mem_cons_of_mem _ h3
theorem foldl_min_le (ns : List Int) : ∀ n, ns.foldl min n ≤ n ∧ (∀ x ∈ ns, ns.foldl min n ≤ x) ∧ (ns.foldl min n = n ∨ ns.foldl min n ∈ ns) := by
  induction ns with
  | nil => intro n; simp
  | cons m ns ih =>
    intro n
    obtain ⟨h1, h2, h3⟩ := ih (min n m)
    simp only [List.foldl_cons]
    refine ⟨by omega, fun x hx => ?_, ?_⟩
    · rcases List.mem_cons.mp hx with rfl | hx
      · omega
      · exact h2 x hx
    · rcases h3 with h3 | h3
      · rw [h3]
        by_cases c : m ≤ n
        · right; rw [Int.min_eq_right c]; simp
        · left; exact Int.min_eq_left (by omega)
      · right; exact List.mem_cons_of_mem _ h3
theorem fMax_of {ns : List Int} {m m' : Int} (h : fMax ns = some m) (h1 : m' ∈ ns) (h2 : ∀ y ∈ ns, y ≤ m') : m' = m := by
  cases ns with
  | nil => cases h1
  | cons n ns =>
    cases h
    obtain ⟨a, b, c⟩ := foldl_max_ge ns n
    have u1 : m' ≤ ns.foldl max n := by
      rcases List.mem_cons.mp h1 with rfl | h1
      · exact a
      · exact b _ h1
    have u2 : ns.foldl max n ≤ m' := by
      rcases c with c | c
      · rw [c]; exact h2 n (by simp)
      · exact h2 _ (List.mem_cons_of_mem _ c)
    omega
theorem fMin_of {ns : List Int} {m m' : Int} (h : fMin ns = some m) (h1 : m' ∈ ns) (h2 : ∀ y ∈ ns, m' ≤ y) : m' = m := by
  cases ns with
  | nil => cases h1
  | cons n ns =>
    cases h
    obtain ⟨a, b, c⟩ := foldl_min_le ns n
    have u1 : ns.foldl min n ≤ m' := by
      rcases List.mem_cons.mp h1 with rfl | h1
      · exact a
      · exact b _ h1
    have u2 : m' ≤ ns.foldl min n := by
      rcases c with c | c
      · rw [c]; exact h2 n (by simp)
      · exact h2 _ (List.mem_cons_of_mem _ c)
    omega
def pMax2 : List D → Option D
  | [.int i, .int j] => some (.int (if j > i then j else i))
  | _ => none
def pMin2 : List D → Option D
  | [.int i, .int j] => some (.int (if j < i then j else i))
  | _ => none
def pMaxA (ds : List D) : Option D := (pMax2 ds).or (lI fMax ds)
def pMinA (ds : List D) : Option D := (pMin2 ds).or (lI fMin ds)
def rMax2Y : List V → Hp → VK → Prop := fun xs H Q => ∃ i j, xs = [.int i, .int j] ∧ Q (.int (if j > i then j else i)) H
def rMin2Y : List V → Hp → VK → Prop := fun xs H Q => ∃ i j, xs = [.int i, .int j] ∧ Q (.int (if j < i then j else i)) H
theorem pr_max2 : PrL K rMax2Y pMax2 := by
  intro Z H ds xs res Q dv zt h k
  unfold pMax2 at h
  split at h
  · obtain ⟨x, y, O, P, rfl, r1, r2⟩ := dvs2 dv
    cases h
    rw [r1.1, r2.1]
    exact ⟨_, _, rfl, pr_done zt k ⟨rfl, rfl⟩⟩
  · cases h
theorem pr_min2 : PrL K rMin2Y pMin2 := by
  intro Z H ds xs res Q dv zt h k
  unfold pMin2 at h
  split at h
  · obtain ⟨x, y, O, P, rfl, r1, r2⟩ := dvs2 dv
    cases h
    rw [r1.1, r2.1]
    exact ⟨_, _, rfl, pr_done zt k ⟨rfl, rfl⟩⟩
  · cases h
theorem pr_maxL : PrL K (rMax K) (lI fMax) := by
  intro Z H ds xs res Q dv zt h k
  obtain ⟨a, ns, m, rfl, sq, e, rfl⟩ := lI_some dv h
  refine ⟨a, ns, rfl, sq, ?_, fun m' h1 h2 => ?_⟩
  · cases ns with
    | nil => cases e
    | cons _ _ => simp
  · rw [fMax_of e h1 h2]; exact pr_done zt k ⟨rfl, rfl⟩
theorem pr_minL : PrL K (rMin K) (lI fMin) := by
  intro Z H ds xs res Q dv zt h k
  obtain ⟨a, ns, m, rfl, sq, e, rfl⟩ := lI_some dv h
  refine ⟨a, ns, rfl, sq, ?_, fun m' h1 h2 => ?_⟩
  · cases ns with
    | nil => cases e
    | cons _ _ => simp
  · rw [fMin_of e h1 h2]; exact pr_done zt k ⟨rfl, rfl⟩
theorem pr_max : PrL K (fun xs H Q => rMax2Y xs H Q ∨ rMax K xs H Q) pMaxA := pr_max2.or pr_maxL
theorem pr_min : PrL K (fun xs H Q => rMin2Y xs H Q ∨ rMin K xs H Q) pMinA := pr_min2.or pr_minL
theorem call_maxA {X : Cx} (hc : X.calm = true) : CallR X (.builtin "max") (fun xs H Q => rMax2Y xs H Q ∨ rMax X.K xs H Q) := CallR.orY (call_max2 hc) (cr_max hc)
theorem call_minA {X : Cx} (hc : X.calm = true) : CallR X (.builtin "min") (fun xs H Q => rMin2Y xs H Q ∨ rMin X.K xs H Q) := CallR.orY (call_min2 hc) (cr_min hc)

/-! ### abs, int, bool, str -/
def pAbs : List D → Option D
  | [.int i] => some (.int (if i < 0 then -i else i))
  | _ => none
theorem pr_abs : PrL K (fun xs H Q => ∃ i, xs = [.int i] ∧ Q (.int (if i < 0 then -i else i)) H) pAbs := by
  intro Z H ds xs res Q dv zt h k
  unfold pAbs at h
  split at h
  · obtain ⟨x, O, rfl, r⟩ := dvs1 dv
    cases h
    rw [r.1]
    exact ⟨_, rfl, pr_done zt k ⟨rfl, rfl⟩⟩
  · cases h
def pInt : List D → Option D
  | [.int i] => some (.int i)
  | [.bl b] => some (.int (if b then 1 else 0))
  | [.str a] => if sizeOk a.length && decide (a.length ≤ 640) then (PySem.intText? a).map .int else none
  | _ => none
def rIntA : List V → Hp → VK → Prop := fun xs H Q => ((∃ i, xs = [.int i] ∧ Q (.int i) H) ∨ ∃ k, xs = [.bl k] ∧ Q (.int (if k then 1 else 0)) H) ∨ ∃ a n, xs = [.str a] ∧ PySem.intText? a = some n ∧ a.length ≤ 640 ∧ Q (.int n) H
theorem call_intA {X : Cx} : CallR X (.type "int") rIntA := CallR.orY call_int1 call_int_str
theorem pr_int : PrL K rIntA pInt := by
  intro Z H ds xs res Q dv zt h k
  unfold pInt at h
  split at h
  · obtain ⟨x, O, rfl, r⟩ := dvs1 dv
    cases h; rw [r.1]
    exact .inl (.inl ⟨_, rfl, pr_done zt k ⟨rfl, rfl⟩⟩)
  · obtain ⟨x, O, rfl, r⟩ := dvs1 dv
    cases h; rw [r.1]
    exact .inl (.inr ⟨_, rfl, pr_done zt k ⟨rfl, rfl⟩⟩)
  · rename_i a
    obtain ⟨x, O, rfl, r⟩ := dvs1 dv
    rw [r.1]
    split at h
    · rename_i c
      simp only [Bool.and_eq_true, decide_eq_true_eq] at c
      cases q : PySem.intText? a with
      | none => rw [q] at h; cases h
      | some n =>
        rw [q] at h; cases h
        exact .inr ⟨a, n, rfl, q, c.2, pr_done zt k ⟨rfl, rfl⟩⟩
    · cases h
  · cases h
def pBool : List D → Option D
  | [.int i] => some (.bl (i != 0))
  | [.bl b] => some (.bl b)
  | _ => none
theorem pr_bool : PrL K (fun xs H Q => (∃ i, xs = [.int i] ∧ Q (.bl (i != 0)) H) ∨ ∃ k, xs = [.bl k] ∧ Q (.bl k) H) pBool := by
  intro Z H ds xs res Q dv zt h k
  unfold pBool at h
  split at h
  · obtain ⟨x, O, rfl, r⟩ := dvs1 dv
    cases h; rw [r.1]
    exact .inl ⟨_, rfl, pr_done zt k ⟨rfl, rfl⟩⟩
  · obtain ⟨x, O, rfl, r⟩ := dvs1 dv
    cases h; rw [r.1]
    exact .inr ⟨_, rfl, pr_done zt k ⟨rfl, rfl⟩⟩
  · cases h
def pStr : List D → Option D
  | [.int i] => if decide (bits i < 1920) then some (.str (toString i : Str)) else none
  | _ => none
theorem pr_str : PrL K (fun xs H Q => ∃ i : Int, xs = [.int i] ∧ i.natAbs.log2 < 1920 ∧ Q (.str (toString i)) H) pStr := by
  intro Z H ds xs res Q dv zt h k
  unfold pStr at h
  split at h
  · obtain ⟨x, O, rfl, r⟩ := dvs1 dv
    obtain ⟨c, rfl⟩ := if_some h
    rw [r.1]
    exact ⟨_, rfl, of_decide_eq_true c, pr_done zt k ⟨rfl, rfl⟩⟩
  · cases h
end
end Yv

set_option Elab.async false
set_option linter.all false
set_option maxRecDepth 100000
set_option maxHeartbeats 4000000
/-! I13: isinstance, repr, sorted, len(set(..)), tuple(range(..)) -/
namespace Yv
open PySem L2 PySem.Spec PyProof.Rows
section
variable {K : PySem.W.Frag} {Z : Zp} {H : Hp}
/-! ### isinstance -/
def tyName : D → Option String
  | .non => some "NoneType"
  | .bl _ => some "bool"
  | .int _ => some "int"
  | .str _ => some "str"
  | .tup _ => some "tuple"
  | .ptu _ => some "tuple"
  | .lst _ _ => some "list"
  | .dct _ _ => some "dict"
  | _ => none
theorem tyName_rep {d : D} {v : V} {O : List Addr} {n : String} (r : Rep K Z H d v O) (h : tyName d = some n) : TyX K H v (.type n) := by
  cases d with
  | non => cases h; rw [r.1]; exact .base .non
  | bl b => cases h; rw [r.1]; exact .base (.bl _)
  | int b => cases h; rw [r.1]; exact .base (.int _)
  | str b => cases h; rw [r.1]; exact .base (.str _)
  | ptu ds => cases h; obtain ⟨a, vs, rfl, t, _⟩ := r; exact .base (.tup t.2)
  | tup ds =>
    cases h
    obtain ⟨a, vs, rfl, t, _⟩ := r
    rcases t with ⟨_, ob, _, e⟩ | ⟨o, its, n, e, c, _⟩
    · exact .fTuple e
    · exact .kTuple e c
  | lst o ds =>
    cases h
    cases o with
    | false => obtain ⟨a, vs, rfl, t, _⟩ := r; exact .base (.lst t.2)
    | true => obtain ⟨a, vs, O', rfl, t, _⟩ := r; exact .base (.lst t)
  | dct o ds =>
    cases h
    obtain ⟨a, u, vs, O', rfl, ha, dh, _⟩ := rep_dctH r
    rcases dh with ⟨ks, rfl, _⟩ | ⟨ks, rfl, _⟩
    · exact .base (.dK ha)
    · exact .base (.dT ha)
  | scr ns => cases h
  | ty n => cases h
def pIsi : List D → Option D
  | [d, .ty n] => match tyName d with
    | some t => (kitB t n).map .bl
    | none => none
  | _ => none
theorem pr_isi : PrL K (rIsi K) pIsi := by
  intro Z H ds xs res Q dv zt h k
  unfold pIsi at h
  split at h
  · rename_i d n
    obtain ⟨x, y, O, P, rfl, r1, r2⟩ := dvs2 dv
    cases q : tyName d with
    | none => rw [q] at h; cases h
    | some t =>
      rw [q] at h
      cases q2 : kitB t n with
      | none => simp [q2] at h
      | some b =>
        simp only [q2, Option.map_some, Option.some.injEq] at h
        subst h
        rw [r2.1]
        exact ⟨x, _, _, _, b, rfl, .ty n, tyName_rep r1 q, kit_ty q2, pr_done zt k ⟨rfl, rfl⟩⟩
  · cases h

/-! ### repr -/
def reprOk (p : PyData) : Bool := p.showable && !p.hasDict && decide (p.depth ≤ 40) && sizeOk p.shown.length
def pRepr : List D → Option D
  | [d] => match d.py with
    | some p => if reprOk p then some (.str p.shown) else none
    | none => none
  | _ => none
def rRepr (K : PySem.W.Frag) : List V → Hp → VK → Prop := fun xs H Q => ∃ x p, xs = [x] ∧ Dp K H x p ∧ reprOk p = true ∧ Q (.str p.shown) H
theorem call_reprA {X : Cx} (hg : X.A.guards = some []) (hu : X.A.units + 65 < cLine) : CallR X (.builtin "repr") (rRepr X.K) := by
  intro pins s σ H xs us Q I rs h
  obtain ⟨x, p, rfl, dp, ok, q⟩ := h
  obtain ⟨u, rfl, ru⟩ := vals1 rs
  obtain ⟨as, rd⟩ := Dp.reads I p x u dp ru
  unfold reprOk at ok
  simp only [Bool.and_eq_true, Bool.not_eq_true', decide_eq_true_eq] at ok
  obtain ⟨⟨⟨ok1, ok2⟩, ok3⟩, ok4⟩ := ok
  have fin : ∀ {tk t : Nat}, EP X pins σ Q (.str p.shown t) { s with toks := tk } := fun {tk t} => ⟨.str p.shown, H, I.tok _, ⟨_, rfl⟩, q⟩
  have fin2 : ∀ {h' : Heap} {tk t : Nat}, (∀ b o, s.heap.get? b = some o → h'.get? b = some o) → EP X pins σ Q (.str p.shown t) { s with heap := h', toks := tk } := fun {h' tk t} hk => ⟨.str p.shown, H, I.kept hk, ⟨_, rfl⟩, q⟩
  cases dp with
  | non => cases ru; exact PySem.P.repr_of_none fin
  | bl b => cases ru; exact PySem.P.repr_of_bool fin
  | int i =>
    obtain ⟨t, rfl⟩ := ru
    exact PySem.P.repr_of_int (by simpa [PyData.showable] using ok1) fin
  | str y =>
    obtain ⟨t, rfl⟩ := ru
    exact PySem.P.repr_of_str fin (sizeOk_le ok4)
  | lst _ _ =>
    cases ru
    exact PySem.repr_of_reads' rd ok1 (PyData.noDict_hsm ok2) hg (by omega) (fun _ _ e => e) (fun h' u tk hk => fin2 hk) (sizeOk_le ok4)
  | tup _ _ =>
    cases ru
    exact PySem.repr_of_reads' rd ok1 (PyData.noDict_hsm ok2) hg (by omega) (fun _ _ e => e) (fun h' u tk hk => fin2 hk) (sizeOk_le ok4)
theorem pr_repr : PrL K (rRepr K) pRepr := by
  intro Z H ds xs res Q dv zt h k
  unfold pRepr at h
  split at h
  · rename_i d
    obtain ⟨x, O, rfl, r⟩ := dvs1 dv
    cases q : d.py with
    | none => rw [q] at h; cases h
    | some p =>
      rw [q] at h
      obtain ⟨c, rfl⟩ := if_some h
      exact ⟨x, p, rfl, r.dp q, c, pr_done zt k ⟨rfl, rfl⟩⟩
  · cases h
end
end Yv

set_option Elab.async false
set_option linter.all false
set_option maxRecDepth 100000
set_option maxHeartbeats 4000000
/-! I14: sorted, len(set(..)) -/
namespace Yv
open PySem L2 PySem.Spec PyProof.Rows
/-! ### sorting ints -/
def insI (n : Int) : List Int → List Int
  | [] => [n]
  | m :: ms => if n ≤ m then n :: m :: ms else m :: insI n ms
def srtI : List Int → List Int
  | [] => []
  | n :: ns => insI n (srtI ns)
theorem insI_perm (n : Int) : ∀ ms, (insI n ms).Perm (n :: ms)
  | [] => .refl _
  | m :: ms => by
    unfold insI
    split
    · exact .refl _
    · exact ((insI_perm n ms).cons m).trans (.swap n m ms)
theorem srtI_perm : ∀ ns, (srtI ns).Perm ns
  | [] => .refl _
  | n :: ns => (insI_perm n _).trans ((srtI_perm ns).cons n)
theorem insI_sorted (n : Int) : ∀ {ms : List Int}, ms.Pairwise (· ≤ ·) → (insI n ms).Pairwise (· ≤ ·)
  | [], _ => by simp [insI]
  | m :: ms, h => by
    unfold insI
    rw [List.pairwise_cons] at h
    split
    · rename_i c
      refine List.pairwise_cons.mpr ⟨fun x hx => ?_, List.pairwise_cons.mpr h⟩
      rcases List.mem_cons.mp hx with rfl | hx
      · exact c
      · have := h.1 x hx; omega
    · rename_i c
      refine List.pairwise_cons.mpr ⟨fun x hx => ?_, insI_sorted n h.2⟩
      rcases List.mem_cons.mp ((insI_perm n ms).mem_iff.mp hx) with rfl | hx
      · omega
      · exact h.1 x hx
theorem srtI_sorted : ∀ ns, (srtI ns).Pairwise (· ≤ ·)
  | [] => .nil
  | n :: ns => insI_sorted n (srtI_sorted ns)
theorem sorted_unique : ∀ {xs ys : List Int}, xs.Perm ys → xs.Pairwise (· ≤ ·) → ys.Pairwise (· ≤ ·) → xs = ys
  | [], ys, p, _, _ => by rw [List.nil_perm.mp p]
  | x :: xs, ys, p, h1, h2 => by
    cases ys with
    | nil => exact absurd p.symm (by simp)
    | cons y ys =>
      rw [List.pairwise_cons] at h1 h2
      have a : x ≤ y := by
        rcases List.mem_cons.mp (p.symm.mem_iff.mp (List.mem_cons_self (a := y) (l := ys))) with e | m
        · omega
        · exact h1.1 y m
      have b : y ≤ x := by
        rcases List.mem_cons.mp (p.mem_iff.mp (List.mem_cons_self (a := x) (l := xs))) with e | m
        · omega
        · exact h2.1 x m
      have e : x = y := by omega
      subst e
      rw [sorted_unique p.cons_inv h1.2 h2.2]
section
variable {prog : Program} {w : World} {A : Around} {E : Value → Shared → Prop} {s : Shared}
/-- a tuple's items gathered in a new list -/
theorem gather_tup {t : Addr} {its : List Value} {Q : List Value → Shared → Prop} (ht : IsTup s.heap t its.toArray) (hz : its.length ≤ sizeLine)
    (q : Q its { s with heap := (s.heap.push (seqObj "list" #[] 0)).update s.heap.objs.size (Obj.mapSeq (· ++ its.toArray)) }) : wpAny (model prog w) A (collect (.ref t)) Q E s := by
  obtain ⟨ob, g1, g2, n, g3⟩ := id ht
  unfold collect
  refine wpAny_bind (wpAny_runValue (codeAny_builtin entry_proto_collect' ?_))
  refine wpAny_bind (wpAny_newList (wpAny_pure ?_))
  refine ⟨Code.quiet_builtin _ (by decide +kernel), codeAny_builtin entry_list_iadd' ?_⟩
  show wpAny (model prog w) _ (Builtin.List.listExtendWith (.ref s.heap.objs.size) (.ref t) (.ref s.heap.objs.size)) _ _ ({ s with heap := s.heap.push (seqObj "list" #[] 0) } : Shared)
  unfold Builtin.List.listExtendWith
  have g1' : (s.heap.push (seqObj "list" #[] 0)).get? t = some ob := Heap.get?_push_of_some _ g1
  refine wpAny_bind (wpAny_typeOf (T := "tuple") ⟨ob, g1', g2⟩ ?_)
  have ty : (Value.type "tuple" == Value.type "tuple") = true := rfl
  rw [if_pos (by rw [ty]; simp)]
  refine wpAny_bind (listItems_at g1' g3 ?_)
  refine wpAny_bind (listItems_at (xs := #[]) (n := 0) (Heap.get?_push_size _ rfl) rfl ?_)
  rw [if_neg (by simp)]
  have room : ((#[] : Array Value) ++ its.toArray).size ≤ sizeLine + 1 := by simp; omega
  refine wpAny_bind (listUpdate_at (xs := #[]) (n := 0) (Heap.get?_push_size _ rfl) rfl ?_ (Nat.zero_le _) room)
  refine wpAny_pure ?_
  refine wpAny_bind (wpAny_load (get?_update_seq (Heap.get?_push_size _ rfl) _) ?_)
  refine wpAny_pure ?_
  have e : ((#[] : Array Value) ++ its.toArray).toList = its := by simp
  show Q ((#[] : Array Value) ++ its.toArray).toList _
  rw [e]
  exact q
/-- sorted of a tuple of ints -/
theorem sorted_tupI {t : Addr} {its : List Value} {ns : List Int} {Q : Value → Shared → Prop} (ht : IsTup s.heap t its.toArray) (hz : its.length ≤ sizeLine) (hi : IntsAre its ns)
    (q : ∀ out : List Value, SrtO.Srtd SrtO.ltIv out → SrtO.Stb SrtO.ltIv out its → Q (.ref (s.heap.objs.size + 1)) { s with heap := sortedAll s.heap its out.toArray }) : wpAny (model prog w) A (call (.builtin "sorted") [.ref t]) Q E s := by
  refine Calls.call_function_entry kind_sorted plain_sorted entry_sorted (args_sorted1 _) ?_
  unfold Builtin.«sorted»
  refine wpAny_bind (m := checkCount "sorted" 1 1 _) (wpAny_pure ?_)
  refine wpAny_bind (gather_tup ht hz ?_)
  refine wpAny_bind (wpAny_newList ?_ hz)
  generalize hg : (s.heap.push (seqObj "list" #[] 0)).update s.heap.objs.size (Obj.mapSeq (· ++ its.toArray)) = h1
  have sz : h1.objs.size = s.heap.objs.size + 1 := by rw [← hg, Heap.size_update, size_push']
  have at2 : (h1.push (seqObj "list" its.toArray 0)).get? (s.heap.objs.size + 1) = some (seqObj "list" its.toArray 0) := by rw [← sz]; exact Heap.get?_push_size _ rfl
  show wpAny _ _ _ _ _ ({ s with heap := h1.push (seqObj "list" its.toArray 0) } : Shared)
  rw [sz]
  refine wpAny_bind (wpAny_holding (wpAny_call_entry slot_list_sort ⟨_, at2, rfl⟩ entry_list_sort ?_ (args_list_sort _)))
  refine SrtO.list_sort_ord SrtO.swo_int at2 hz (fun h2 => SrtO.ints_sortable hi h2) fun out hs hb => ⟨_, rfl, wpAny_pure ⟨_, rfl, ?_⟩⟩
  have qq := q out hs hb
  unfold sortedAll at qq
  subst hg
  exact qq
end
def rSortA (K : PySem.W.Frag) : List V → Hp → VK → Prop := fun vs H Q => ∃ (a : Addr) (ns : List Int), vs = [V.ref a] ∧ (SqL K H a (ns.map V.int) ∨ SqT K H a (ns.map V.int)) ∧ ∀ p, H p = none → Q (.ref p) (upd H p (.lst ((srtI ns).map V.int)))
theorem call_sortA {X : Cx} : CallR X (.builtin "sorted") (rSortA X.K) := by
  intro pins s σ H vs us Q I r h
  obtain ⟨a, ns, rfl, hs, q⟩ := h
  rcases hs with hs | hs
  · refine cr_sortedI pins s σ H _ us Q I r ⟨a, ns, rfl, hs, fun ns' p h1 h2 hp => ?_⟩
    rw [sorted_unique (h1.trans (srtI_perm ns).symm) h2 (srtI_sorted ns)]
    exact q p hp
  · obtain ⟨its, rv, ht, hz⟩ := I.tuple hs
    have hi := rv.ints
    rw [Vals.ref1 r]
    refine sorted_tupI ht (by rw [← rv.length]; exact hz) hi fun out h1 h2 => ?_
    obtain ⟨k1, k2, k3⟩ := SrtO.ints_out hi h1 h2
    obtain ⟨ep, he⟩ := PyProof.Rows.sortedAll_at s.heap its out.toArray
    have es : out.map SrtO.iv = srtI ns := sorted_unique (k2.trans (srtI_perm ns).symm) k3 (srtI_sorted ns)
    rw [es] at k1
    have hlen : ((srtI ns).map V.int).length ≤ sizeLine := by
      rw [List.length_map, (srtI_perm ns).length_eq]
      rw [List.length_map] at hz; exact hz
    refine ⟨.ref _, upd H (s.heap.objs.size + 1) (.lst ((srtI ns).map V.int)), I.laid (t' := s.toks) (fun _ _ => PyProof.Rows.sortedAll_old) (Nat.le_succ _) ?_, rfl, q _ (I.hok.fresh (Nat.le_succ _))⟩
    exact ⟨hlen, out, ep, vals_of_ints k1, he⟩
def pSort : List D → Option D
  | [d] => match itS d with
    | some es => (intsOf es).map fun ns => .lst true ((srtI ns).map .int)
    | none => none
  | _ => none
theorem pr_sort {K : PySem.W.Frag} : PrL K (rSortA K) pSort := by
  intro Z H ds xs res Q dv zt h k
  unfold pSort at h
  split at h
  · rename_i d
    obtain ⟨x, O, rfl, r⟩ := dvs1 dv
    cases q : itS d with
    | none => rw [q] at h; cases h
    | some es =>
      rw [q] at h
      obtain ⟨a, vs, rfl, sq, rl, _⟩ := itS_rep r q
      cases q2 : intsOf es with
      | none => simp [q2] at h
      | some ns =>
        simp only [q2, Option.map_some, Option.some.injEq] at h
        subst h
        have := intsOf_eq q2
        subst this
        rw [rl.ints] at sq
        exact ⟨a, ns, rfl, sq, fun p hp => pr_lst zt k (RepL.of_ints _) hp⟩
  · cases h

/-! ### len(set(xs)), ints -/
def ddI : List Int → List Int
  | [] => []
  | n :: ns => if n ∈ ns then ddI ns else n :: ddI ns
theorem ddI_mem {x : Int} : ∀ {ns : List Int}, x ∈ ddI ns ↔ x ∈ ns
  | [] => Iff.rfl
  | n :: ns => by
    unfold ddI
    split
    · rename_i c
      rw [ddI_mem, List.mem_cons]
      exact ⟨.inr, fun h => h.elim (fun e => by rw [e]; exact c) id⟩
    · rw [List.mem_cons, List.mem_cons, ddI_mem]
theorem ddI_nodup : ∀ (ns : List Int), (ddI ns).Nodup
  | [] => List.nodup_nil
  | n :: ns => by
    unfold ddI
    split
    · exact ddI_nodup ns
    · rename_i c
      exact List.nodup_cons.mpr ⟨fun m => c (ddI_mem.mp m), ddI_nodup ns⟩
theorem nodup_sub_le : ∀ {xs ys : List Int}, xs.Nodup → (∀ x ∈ xs, x ∈ ys) → xs.length ≤ ys.length
  | [], _, _, _ => Nat.zero_le _
  | x :: xs, ys, h, s => by
    rw [List.nodup_cons] at h
    have m : x ∈ ys := s x (by simp)
    have : xs.length ≤ (ys.erase x).length := nodup_sub_le h.2 fun y hy => (List.mem_erase_of_ne (fun e => h.1 (by rw [← e]; exact hy))).mpr (s y (List.mem_cons_of_mem _ hy))
    rw [List.length_erase_of_mem m] at this
    have : 0 < ys.length := List.length_pos_of_mem m
    rw [List.length_cons]; omega
theorem nodup_same {xs ys : List Int} (h1 : xs.Nodup) (h2 : ys.Nodup) (h : ∀ x, x ∈ xs ↔ x ∈ ys) : xs.length = ys.length := Nat.le_antisymm (nodup_sub_le h1 fun x m => (h x).mp m) (nodup_sub_le h2 fun x m => (h x).mpr m)
theorem firstMet_mem (ns : List Int) : ∀ i, i ≤ ns.length → (∀ x, x ∈ firstMet (fun i => ns.getD i 0) i ↔ x ∈ ns.take i) ∧ (firstMet (fun i => ns.getD i 0) i).Nodup
  | 0, _ => ⟨fun x => by simp [firstMet_zero], by simp [firstMet_zero]⟩
  | i + 1, hi => by
    obtain ⟨a, b⟩ := firstMet_mem ns i (by omega)
    have e1 : ns.getD i 0 = ns[i] := by rw [List.getD_eq_getElem?_getD, List.getElem?_eq_getElem (by omega)]; rfl
    have e2 : ns.take (i + 1) = ns.take i ++ [ns[i]] := by rw [List.take_add_one, List.getElem?_eq_getElem (by omega)]; rfl
    rw [firstMet_succ, e2]
    show (∀ x, x ∈ (if (firstMet (fun i => ns.getD i 0) i).any (· == ns.getD i 0) then _ else _) ↔ _) ∧ List.Nodup (if (firstMet (fun i => ns.getD i 0) i).any (· == ns.getD i 0) then _ else _)
    rw [e1]
    by_cases c : (firstMet (fun i => ns.getD i 0) i).any (· == ns[i]) = true
    · rw [if_pos c]
      refine ⟨fun x => ?_, b⟩
      rw [a x, List.mem_append, List.mem_singleton]
      refine ⟨.inl, fun h => h.elim id fun e => ?_⟩
      obtain ⟨y, hy, ey⟩ := List.any_eq_true.mp c
      rw [e, ← eq_of_beq ey]
      exact (a y).mp hy
    · rw [if_neg c]
      refine ⟨fun x => by rw [List.mem_append, List.mem_append, a x], ?_⟩
      refine List.nodup_append.mpr ⟨b, by simp, fun x hx y hy e => ?_⟩
      rw [List.mem_singleton] at hy
      exact c (List.any_eq_true.mpr ⟨x, hx, by rw [e, hy]; exact beq_self_eq_true _⟩)
theorem firstMet_len (ns : List Int) : (firstMet (fun i => ns.getD i 0) ns.length).length = (ddI ns).length := by
  obtain ⟨a, b⟩ := firstMet_mem ns ns.length (Nat.le_refl _)
  refine nodup_same b (ddI_nodup ns) fun x => ?_
  rw [a, List.take_length, ddI_mem]
def tSetLen (K : PySem.W.Frag) (ta : TE) : TE := fun σ H Q => ta σ H fun x H1 => ∃ (l : Addr) (ns : List Int), x = .ref l ∧ (SqL K H1 l (ns.map V.int) ∨ SqT K H1 l (ns.map V.int)) ∧ ns.length ≤ 4000 ∧ Q (.int ((ddI ns).length : Nat)) H1
theorem pe_setLen {X : Cx} {a : Expr} {ta : TE} {p p2 q pos : Pos} (hg : Gl X "len") (hm : X.mg "len" = none) (hg2 : Gl X "set") (hm2 : X.mg "set" = none) (ha : PE X a ta) (hc : X.calm = true)
    (na : starEach [a] X.env = (false, eval a X.env) :: starEach [] X.env) : PE X (.Call (.Name "len" p) [.Call (.Name "set" p2) [a] [] q] [] pos) (tSetLen X.K ta) := by
  refine ⟨fun pins s σ H Q I h => ?_⟩
  refine Call_ (ld_blt I hg hm boot_len (callWith_builtin1 (args_cons ?_ rfl) rfl rfl))
  refine Call_ (ld_blt I hg2 hm2 boot_set (callWith_type1 (args_cons (thn (ha.run pins s σ H _ I h) fun v s1 ⟨x, H1, I1, r1, q1⟩ => args_nil ?_) na) na rfl))
  obtain ⟨l, ns, rfl, hq, hl, q1⟩ := q1
  cases r1
  have e63 : (2 : Int) ^ 63 = 9223372036854775808 := by decide
  have le : (ddI ns).length ≤ ns.length := nodup_sub_le (ddI_nodup ns) fun x m => ddI_mem.mp m
  rcases hq with hq | hq
  · obtain ⟨its, r, pl, hz⟩ := I1.list hq
    have n1 : its.toArray.size = ns.length := by rw [List.size_toArray, ← r.length, List.length_map]
    refine call_set_list (I1.ok.hd hc) pl.isList (by simpa using RZ.intsAre_vals r) (by rw [n1]; unfold scanBound; omega) fun h' tk hS hk => args_nil ?_
    rw [n1] at hS
    obtain ⟨o, es, ep, t, ho, hex, hd, _, _, _, hf, hn⟩ := hS
    rw [firstMet_len] at hn
    have I2 : Inv X pins σ H1 { s1 with heap := h', toks := tk } := I1.kept fun b o e => hk b o (Heap.lt_size e) e
    refine call_len_set ho hex hd hf (by rw [hn, e63]; omega) ⟨.int ((ddI ns).length : Nat), H1, I2.tok _, ⟨_, by rw [hn]⟩, q1⟩
  · obtain ⟨its, r, pl, hz⟩ := I1.tuple hq
    refine call_set_tupI ns (I1.ok.hd hc) pl (by simpa using RZ.intsAre_vals r) (by unfold scanBound; omega) fun h' tk c hS hcl hk => args_nil ?_
    obtain ⟨o, es, ep, t, ho, hex, hd, hgd, hnd, hmem, hb, hf, hn, _, _⟩ := hS
    have cnt : c = (ddI ns).length := by
      rw [← hn, ← Array.length_toList, ← List.length_map (f := L2.keyOf)]
      refine nodup_same hnd (ddI_nodup ns) fun x => ?_
      rw [← hmem x, ddI_mem]; simp
    have I2 : Inv X pins σ H1 { s1 with heap := h', toks := tk } := I1.kept hk
    refine call_len_set ho hex hd hf (by rw [hn, e63]; omega) ⟨.int ((ddI ns).length : Nat), H1, I2.tok _, ⟨_, by rw [hn, cnt]⟩, q1⟩
def pSetLen : D → Option D := fun d => match itS d with
  | some es => match intsOf es with
    | some ns => if decide (ns.length ≤ 4000) then some (.int ((ddI ns).length : Nat)) else none
    | none => none
  | none => none
def rSetLen (K : PySem.W.Frag) : V → Hp → VK → Prop := fun x H1 Q => ∃ (l : Addr) (ns : List Int), x = .ref l ∧ (SqL K H1 l (ns.map V.int) ∨ SqT K H1 l (ns.map V.int)) ∧ ns.length ≤ 4000 ∧ Q (.int ((ddI ns).length : Nat)) H1
theorem pr_setLen {K : PySem.W.Frag} : Pr1 K (rSetLen K) pSetLen := by
  intro Z H d x res Q ⟨O, r⟩ zt h k
  unfold pSetLen at h
  cases q : itS d with
  | none => rw [q] at h; cases h
  | some es =>
    rw [q] at h
    obtain ⟨a, vs, rfl, sq, rl, _⟩ := itS_rep r q
    cases q2 : intsOf es with
    | none => simp [q2] at h
    | some ns =>
      simp only [q2] at h
      obtain ⟨c, rfl⟩ := if_some h
      have := intsOf_eq q2
      subst this
      rw [rl.ints] at sq
      exact ⟨a, ns, rfl, sq, of_decide_eq_true c, pr_done zt k ⟨rfl, rfl⟩⟩
end Yv

set_option Elab.async false
set_option linter.all false
set_option maxRecDepth 100000
set_option maxHeartbeats 4000000
/-! I15: defs whose callers stand in no repr: promises, calls, the law's end -/
namespace Yv
open PySem L2 PySem.Spec PyProof.Rows
structure RoomG (k : Nat) (A : Around) : Prop where
  rm : Room k A
  gd : A.guards = some []
theorem RoomG.mono {j k : Nat} {A : Around} (r : RoomG k A) (h : j ≤ k) : RoomG j A := ⟨r.rm.mono h, r.gd⟩
theorem RoomG.deeper {k : Nat} {A : Around} (r : RoomG (k + 1) A) (env : Env) : RoomG k (A.deeper env) := ⟨r.rm.deeper env, r.gd⟩
/-- the def at f keeps sp wherever no repr is under way -/
structure FnG (P : Program) (w : World) (K : PySem.W.Frag) (mg : Str → Option Value) (base : Heap) (CX : CXT) (k : Nat) (f : Addr) (fd : FuncData) (ps : List Str) (sp : Sp) : Prop where
  len : ∀ vs H Q E, sp vs H Q E → vs.length = ps.length
  run : ∀ (A : Around) (outer : List Env) (s : Shared) (H : Hp) (args : Args) (us : List Value) (vs : List V) (Q : VK) (E : XK),
    RoomG k A → Env0 P w K mg base A outer s H → BindsTo s fd args (ps.zip us) → Vals vs us → sp vs H Q E →
    codeAny (model P w) A (.call (.ref f) args) (L2.CR CX outer P w H s Q E) s
section
variable {P : Program} {w : World} {K : PySem.W.Frag} {mg : Str → Option Value} {base : Heap} {CX : CXT}
theorem FnG.mono {j k : Nat} {f : Addr} {fd : FuncData} {ps : List Str} {sp : Sp} (F : FnG P w K mg base CX j f fd ps sp) (h : j ≤ k) : FnG P w K mg base CX k f fd ps sp :=
  ⟨F.len, fun A outer s H args us vs Q E hr => F.run A outer s H args us vs Q E (hr.mono h)⟩
/-- from the body -/
theorem fnG_of {k : Nat} {f : Addr} {name qual : Str} {params : Arguments} {body : List Stmt} {scope : Scope} {dV kV doc pm cdv ct oc : Value} {an od : Option Addr} {osl : Array (Option Value)} {N ps : List Str} {sp : Sp}
    (lk : K.lookup f = some ⟨oc, od, .func (PySem.W.fnOf name qual params body scope dV kV doc pm an cdv ct), osl⟩)
    (hcd : PySem.W.codeIn K cdv qual = true) (S : FnScope N ps scope) (len : ∀ vs H Q E, sp vs H Q E → vs.length = ps.length)
    (B : ∀ (A : Around) (outer : List Env) (s : Shared) (H : Hp) (vs : List V) (Q : VK) (E : XK),
      RoomG k (A.deeper (envOfC qual scope s.heap.objs.size f cdv)) → sp vs H Q E →
      ∃ t, PSs (cxOf CX P w K mg base N qual scope f cdv A outer s H E) body t ∧
        t { nx := fun _ H' => Q .non H', rt := Q } (start N vs) H) :
    FnG P w K mg base CX (k + 1) f (PySem.W.fnOf name qual params body scope dV kV doc pm an cdv ct) ps sp := by
  refine ⟨len, ?_⟩
  intro A outer s H args us vs Q E room e0 bnd r0 pr
  have n0 := len _ _ _ _ pr
  have inK : K.In s.heap := e0.mod.kin.keeps fun b o e => (e0.bs b o e).1
  have noLim : s.heap.NoLimit := e0.mod.nolimit.keeps fun b o e => (e0.bs b o e).1
  have kinds : ∀ y ∈ ps.zip us, scope.names.lookup y.1 = some .local ∨
      (scope.names.lookup y.1 = some .cell ∧ ((cellsFrom (s.heap.objs.size + 1) scope.names []).lookup y.1).isSome = true) := by
    rintro ⟨n, v⟩ hy
    exact (S.par n (List.of_mem_zip hy).1).imp id fun q => ⟨q, PySem.W.cellsFrom_some _ _ _ (.inl q)⟩
  refine codeAny_call_function room.rm.depth (inK _ _ lk) rfl S.co S.gen rfl (PySem.W.codeRec_of inK hcd) (bnd _ _ _ _ ?_)
  refine wpAny_newFunctionEnv_cells S.kind kinds fun env he s1 x => ?_
  subst he
  refine ⟨noLim.keeps x.toInCall.keep, codeAny_func ?_⟩
  obtain ⟨t, pt, go⟩ := B A outer s H vs Q E (room.deeper _) pr
  have I0 := inv_start (CX := CX) (cd := cdv) (qual := qual) (E := E) (f := f) S room.rm.hd e0 n0 r0 x
  refine wpAny_mono (pt.run [] s1 (start N vs) H _ I0 go) (fun fl s' end_ => ?_) (fun _ _ z => z)
  cases fl with
  | ret u => obtain ⟨v, σ', H', J, rv, q⟩ := end_; exact ⟨v, H', J.os, J.bare, J.base, J.hok, rv, q⟩
  | next => obtain ⟨σ', H', J, q⟩ := end_; exact ⟨V.non, H', J.os, J.bare, J.base, J.hok, rfl, q⟩
  | brk => obtain ⟨_, _, _, q⟩ := end_; exact q.elim
  | cont => obtain ⟨_, _, _, q⟩ := end_; exact q.elim
theorem okG {x qual : Str} {st : Stmt} {f : Addr} {fd : FuncData} {N ps : List Str} {k : Nat} {sp : Sp} (F : Fun K x qual st f fd) (S : FnScope N ps (defScope st)) (len : ∀ vs H Q E, sp vs H Q E → vs.length = ps.length)
    (B : ∀ (cdv : Value) (A : Around) (outer : List Env) (s : Shared) (H : Hp) (vs : List V) (Q : VK) (E : XK),
      RoomG k (A.deeper (envOfC qual (defScope st) s.heap.objs.size f cdv)) → sp vs H Q E →
      ∃ t, PSs (cxOf CX P w K mg base N qual (defScope st) f cdv A outer s H E) (defBody st) t ∧
        t { nx := fun _ H' => Q .non H', rt := Q } (start N vs) H) :
    FnG P w K mg base CX (k + 1) f fd ps sp := by
  obtain ⟨oc, od, kV, doc, pm, an, cdv, ct, osl, rfl, lk, hcd⟩ := F.ex
  exact fnG_of lk hcd S len fun A outer s H vs Q E => B cdv A outer s H vs Q E
end

/-! ### calls -/
section
variable {X : Cx} {CX : CXT} {k : Nat} {f : Addr} {fd : FuncData} {ps ks : List Str} {sp : Sp} {E : L2.St → XK} {x : Str} {p pos : Pos} {e : Expr} {es : List Expr} {kws : List Keyword} {t tk : TA}
variable {g : List Value → List Value → List Value} {gV : List V → List V → List V}
theorem run_G {pins : List (Addr × Obj)} {σ : L2.St} {H : Hp} {s : Shared} {Q : VK} {us ws : List Value} {vs zs : List V} (F : FnG X.prog X.w X.K X.mg X.base CX k f fd ps sp) (hr : RoomG k X.A)
    (hb : KBinds X.K fd ps ks g gV) (hx : ∀ σ, PassesAt CX X σ (E σ)) (I : Inv X pins σ H s) (r : Vals vs us) (rz : Vals zs ws) (h : sp (gV vs zs) H Q (E σ)) :
    wpAny (model X.prog X.w) X.A (call (.ref f) us (ks.zip ws)) (EP X pins σ Q) X.xe s := by
  have rr := hb.rel r rz
  have n0 : (g us ws).length = ps.length := rr.length.symm.trans (F.len _ _ _ _ h)
  refine wpAny_call (codeAny_mono (F.run X.A X.stack s H _ (g us ws) (gV vs zs) Q (E σ) hr I.env0 (hb.to s us ws I.kIn n0) rr h) fun o s' end_ => ?_)
  cases o with
  | error e => exact hx σ pins H s e s' I end_
  | ok fl =>
    cases fl with
    | ret u => exact I.after end_
    | next => exact end_.elim
    | brk => exact end_.elim
    | cont => exact end_.elim
def tCallG (sp : Sp) (gV : List V → List V → List V) (E : L2.St → XK) (t tk : TA) : TE := fun σ H Q => t σ H fun vs H1 => tk σ H1 fun zs H2 => sp (gV vs zs) H2 Q (E σ)
/-- positional arguments alone -/
theorem bindsPos {K : PySem.W.Frag} (h : Binds K fd ps []) : KBinds K fd ps [] (fun us _ => us) (fun vs _ => vs) := ⟨fun s us ws hk hl => by
  have q := h s us hk (by rw [List.append_nil]; exact hl)
  rw [List.append_nil] at q
  exact q, fun r _ => r⟩
theorem pe_callG (F : FnG X.prog X.w X.K X.mg X.base CX k f fd ps sp) (hr : RoomG k X.A) (hg : Gl X x) (hm : X.mg x = some (.ref f)) (hk : PySem.W.keepIn X.K (.ref f) = true) (hb : Binds X.K fd ps []) (hx : ∀ σ, PassesAt CX X σ (E σ))
    (ha : PA X (e :: es) t) (hdb : (x == ("__debug__" : Str)) = false) (he : starEach (e :: es) X.env = (false, eval e X.env) :: starEach es X.env) (hpl : (backTo pos (starEach es X.env)).any (·.1) = false) :
    PE X (.Call (.Name x p) (e :: es) [] pos) (fun σ H Q => t σ H fun vs H1 => sp vs H1 Q (E σ)) := by
  refine ⟨fun pins s σ H Q I h => wpAny_Call_Name_kw (ld_glob I hg hm ?_ hdb)⟩
  refine PySem.W.callWith_K (h₀ := X.base) I.ok.mod.kin hk (thn (ha.run pos pins s σ H _ I h) fun us s1 ⟨vs, H1, I1, r, q⟩ => ⟨I1.kIn, ?_⟩) he hpl
  exact run_G (ks := []) (ws := []) (zs := []) F hr (bindsPos hb) hx I1 r .nil q
theorem pe_callG0 (F : FnG X.prog X.w X.K X.mg X.base CX k f fd ps sp) (hr : RoomG k X.A) (hg : Gl X x) (hm : X.mg x = some (.ref f)) (hk : PySem.W.keepIn X.K (.ref f) = true) (hb : Binds X.K fd ps []) (hx : ∀ σ, PassesAt CX X σ (E σ))
    (hdb : (x == ("__debug__" : Str)) = false) : PE X (.Call (.Name x p) [] [] pos) (fun σ H Q => sp [] H Q (E σ)) := by
  refine ⟨fun pins s σ H Q I h => wpAny_Call_Name_kw (ld_glob I hg hm ?_ hdb)⟩
  exact PySem.W.callWith_K0 I.kIn hk (run_G (us := []) (vs := []) (ks := []) (ws := []) (zs := []) F hr (bindsPos hb) hx I .nil .nil h)
theorem pe_callGK (F : FnG X.prog X.w X.K X.mg X.base CX k f fd ps sp) (hr : RoomG k X.A) (hg : Gl X x) (hm : X.mg x = some (.ref f)) (hk : PySem.W.keepIn X.K (.ref f) = true) (hb : KBinds X.K fd ps ks g gV) (hx : ∀ σ, PassesAt CX X σ (E σ))
    (ha : PA X (e :: es) t) (hkw : PK X kws tk) (hall : (backToKw pos (keywordEach kws X.env)).all (·.1.isSome) = true) (hks : (backToKw pos (keywordEach kws X.env)).filterMap (·.1) = ks)
    (hdb : (x == ("__debug__" : Str)) = false) (he : starEach (e :: es) X.env = (false, eval e X.env) :: starEach es X.env)
    (hpl : ((backTo pos (starEach (e :: es) X.env)).any (·.1) || (backToKw pos (keywordEach kws X.env)).any (·.1.isNone)) = false) :
    PE X (.Call (.Name x p) (e :: es) kws pos) (tCallG sp gV E t tk) := by
  refine ⟨fun pins s σ H Q I h => wpAny_Call_Name_kw (ld_glob I hg hm ?_ hdb)⟩
  refine PySem.W.callWith_KW (h₀ := X.base) I.ok.mod.kin hk hall (thn (ha.run pos pins s σ H _ I h) fun us s1 ⟨vs, H1, I1, r, q⟩ => ?_) hpl he
  refine thn (hkw.run pos pins s1 σ H1 _ I1 q) fun ws s2 ⟨zs, H2, I2, rz, q2⟩ => ⟨I2.kIn, ?_⟩
  rw [hks]
  exact run_G F hr hb hx I2 r rz q2
theorem pe_callGK0 (F : FnG X.prog X.w X.K X.mg X.base CX k f fd ps sp) (hr : RoomG k X.A) (hg : Gl X x) (hm : X.mg x = some (.ref f)) (hk : PySem.W.keepIn X.K (.ref f) = true) (hb : KBinds X.K fd ps ks g gV) (hx : ∀ σ, PassesAt CX X σ (E σ))
    (hkw : PK X kws tk) (hall : (backToKw pos (keywordEach kws X.env)).all (·.1.isSome) = true) (hks : (backToKw pos (keywordEach kws X.env)).filterMap (·.1) = ks) (hdb : (x == ("__debug__" : Str)) = false)
    (hpl : ((backTo pos (starEach [] X.env)).any (·.1) || (backToKw pos (keywordEach kws X.env)).any (·.1.isNone)) = false) :
    PE X (.Call (.Name x p) [] kws pos) (tCallG sp gV E tNil tk) := by
  refine ⟨fun pins s σ H Q I h => wpAny_Call_Name_kw (ld_glob I hg hm ?_ hdb)⟩
  refine PySem.W.callWith_KW0 (h₀ := X.base) I.ok.mod.kin hk hall (thn (hkw.run pos pins s σ H _ I h) fun ws s2 ⟨zs, H2, I2, rz, q2⟩ => ⟨I2.kIn, ?_⟩) hpl
  rw [hks]
  exact run_G F hr hb hx I2 .nil rz q2
end

/-! ### the law's end -/
theorem law_top {P : Program} {w : World} {K : PySem.W.Frag} {mg mb : Str → Option Value} {CX : CXT} {k : Nat} {fa a : Addr} {fd : FuncData} {x : Str} {sp : Sp} {s₁ : Shared} {vs : List Value} {ns : List Int}
    (inK : K.In s₁.heap) (nsM : s₁.heap.Ns mainGlobals mg) (nsB : s₁.heap.Ns builtinsNs mb) (isB : ∀ x : Str, x ≠ "__name__" → mb x = bootBuiltins x) (lim : s₁.heap.NoLimit) (gn : s₁.gens = #[])
    (scrAt : s₁.heap.get? a = some { cls := .type "list", data := .seq vs.toArray }) (iare : IntsAre vs ns) (len : ns.length ≤ sizeLine) (room : RoomG k callerA)
    (F : ∀ base : Heap, K.In base → base.Ns mainGlobals mg → FnG P w K mg base CX k fa fd [x] sp) (bnd : ∀ (s : Shared) (u : Value), K.In s.heap → BindsTo s fd ⟨[u], []⟩ [(x, u)])
    (pr : ∀ H : Hp, Only H → SqL K H a (ns.map V.int) → sp [.ref a] H (fun v _ => v = .bl true) fun _ _ _ => False)
    (noX : ∀ H e s', CX [] H s₁ (fun _ _ _ => False) e s' → False) :
    codeAny (model P w) callerA (.call (.ref fa) ⟨[.ref a], []⟩) (fun r s' => r = .ok (.ret (.bool true)) ∧ OldK s₁.heap s'.heap ∧ s'.os = s₁.os ∧ AllBare s'.gens) s₁ := by
  have vints := vals_ints iare
  have lv := iare.length
  suffices main : ∀ H : Hp, Only H → SqL K H a (ns.map V.int) → HOk P w H s₁.heap → (∀ b, H b ≠ none → b = a ∧ K.lookup a = none) →
      codeAny (model P w) callerA (.call (.ref fa) ⟨[.ref a], []⟩) (fun r s' => r = .ok (.ret (.bool true)) ∧ OldK s₁.heap s'.heap ∧ s'.os = s₁.os ∧ AllBare s'.gens) s₁ by
    cases inMod : K.lookup a with
    | some o =>
      have e := inK a o inMod
      rw [scrAt] at e
      cases e
      refine main (fun _ => none) (fun _ => .inl rfl) (.inr ⟨_, vs.toArray, _, inMod, rfl, rfl, rfl, ?_, by simpa using vints⟩) (fun b u z => ?_) fun b z => absurd rfl z
      · rw [List.size_toArray, lv]; exact len
      · have z' : (none : Option HO) = some u := z
        cases z'
    | none =>
      refine main (fun b => if b = a then some (.frz { cls := .type "list", data := .seq vs.toArray } (.lst (ns.map V.int))) else none) (fun b => ?_) (.inl (.inr ⟨{ cls := .type "list", data := .seq vs.toArray }, if_pos rfl⟩)) (fun b u z => ?_) fun b z => ?_
      · by_cases q : b = a
        · right; exact ⟨_, _, if_pos q⟩
        · left; exact if_neg q
      · by_cases q : b = a
        · have zz := (if_pos q).symm.trans z
          cases zz; subst q
          exact ⟨scrAt, by rw [List.length_map]; exact len, vs, _, vints, scrAt⟩
        · have zz := (if_neg q).symm.trans z
          cases zz
      · by_cases q : b = a
        · exact ⟨q, inMod⟩
        · exact absurd (if_neg q) z
  intro H only sq hok tracked
  have untracked : ∀ {b : Addr} {o : Obj} {es : Array DictEntry} {ep : Nat}, s₁.heap.get? b = some o → o.data = .dict es ep → H b = none := by
    intro b o es ep e d
    by_cases q : H b = none
    · exact q
    · obtain ⟨eb, _⟩ := tracked b q
      subst eb
      rw [scrAt] at e; cases e
      cases (show Data.seq vs.toArray _ = Data.dict es ep from d)
  have nsH : ∀ {b : Addr} {m : Str → Option Value}, s₁.heap.Ns b m → (hidT s₁.heap H).Ns b m := by
    rintro b m ⟨o, es, ep, e, d, r⟩
    exact ⟨o, es, ep, hidT_get e (untracked e d), d, r⟩
  have kH : K.In (hidT s₁.heap H) := by
    intro b o e
    refine hidT_get (inK b o e) ?_
    by_cases q : H b = none
    · exact q
    · obtain ⟨eb, un⟩ := tracked b q
      subst eb
      rw [un] at e; cases e
  have modH : Mod K mg (hidT s₁.heap H) := by
    obtain ⟨mc, h1, h2⟩ := lim
    exact ⟨kH, nsH nsM, ⟨mb, nsH nsB, isB⟩, ⟨mc, nsH h1, h2⟩⟩
  have env0 : Env0 P w K mg (hidT s₁.heap H) callerA [] s₁ H := by
    refine ⟨rfl, modH, fun b o e => of_hidT e, Nat.le_of_eq (hidT_size _ _), trivial, ?_, hok, .of_eq gn⟩
    intro b m
    cases (show b ∈ ([] : List Addr) from m)
  refine codeAny_mono ((F _ kH (nsH nsM)).run callerA [] s₁ H ⟨[.ref a], []⟩ [.ref a] [.ref a] _ _ room env0 (bnd s₁ (.ref a) inK) (.cons rfl .nil) (pr H only sq)) fun r s' end_ => ?_
  cases r with
  | error e => exact (noX H e s' end_).elim
  | ok fl =>
    cases fl with
    | next => exact end_.elim
    | brk => exact end_.elim
    | cont => exact end_.elim
    | ret u =>
      obtain ⟨v, H', os, bare, un, hok', rv, q⟩ := end_
      rw [show v = .bl true from q] at rv
      cases (show u = Value.bool true from rv)
      refine ⟨rfl, OldK.of_keep fun b o e => ?_, os, bare⟩
      rcases only b with z | ⟨ob, xs, z⟩
      · exact un.keep b o e z (by intro m; cases (show b ∈ ([] : List Addr) from m)) (by simp)
      · obtain ⟨e1, _⟩ := hok b _ z
        obtain ⟨e2, _⟩ := hok' b _ (un.frzs b ob _ z)
        rw [e] at e1; cases e1
        exact e2
theorem walk_top {l : PySem.W.OpenLaw} {n k : Nat} {q : Program} {loose : List Str} {XP : (Str → Option Value) → Heap → Prop} {YP : World → Heap → Prop} {d : DefRec} {K : Params → PySem.W.Frag} {CX : World → CXT} {sp : World → Sp} {x : Str}
    (hn : l.most = some n) (hn2 : n ≤ sizeLine) (nd : d.params.defaults = []) (room : RoomG k callerA) (kY : ∀ (w : World) (h : Heap), YP w h → (K w.params).In h)
    (F : ∀ (w : World) (mg : Str → Option Value) (fa : Addr) (h : Heap), (K w.params).In h → h.Ns mainGlobals mg → mg d.name = some (.ref fa) →
      ∃ fd : FuncData, (∀ (s : Shared) (u : Value), (K w.params).In s.heap → BindsTo s fd ⟨[u], []⟩ [(x, u)]) ∧
        ∀ base : Heap, (K w.params).In base → base.Ns mainGlobals mg → FnG l.prog w (K w.params) mg base (CX w) k fa fd [x] (sp w))
    (pr : ∀ (w : World) (H : Hp) (a : Addr) (ns : List Int), ns.length ≤ n → Only H → SqL (K w.params) H a (ns.map V.int) → sp w [.ref a] H (fun v _ => v = .bl true) fun _ _ _ => False)
    (noX : ∀ (w : World) (H : Hp) (s : Shared) (e : Value) (s' : Shared), CX w [] H s (fun _ _ _ => False) e s' → False) :
    PySem.W.WalkO q loose XP YP l.row.toRowW d [] (fun f vs => PySem.call f vs) := by
  refine Att.attach_call hn nd fun w s₀ s₁ mg mb fa o pm cd doc a vs ns G Y ho hd hcd hmg hobj hints hlen hg => ?_
  have inK := kY w _ Y
  obtain ⟨fd, bnd, ok⟩ := F w mg fa _ inK G.T.g hmg
  exact law_top inK G.T.g G.T.b G.T.builtins G.T.nolimit hg hobj hints (Nat.le_trans hlen hn2) room ok bnd (fun H o s => pr w H a ns hlen o s) fun H e s' => noX w H s₁ e s'
end Yv

set_option Elab.async false
set_option linter.all false
set_option maxRecDepth 100000
set_option maxHeartbeats 4000000
/-! T2: enumerate over tuples; methods of tuples -/
namespace Yv
open PySem L2 PySem.Spec PyProof.Rows
theorem enum_tup_meets (a : Addr) (items : Array Value) :
    Meets (Builtin.«enumerate.__new__» ⟨[.type "enumerate", .ref a], []⟩) (fun _ R s => s.heap.IsTuple a items ∧
      R (.ok (.ret (.ref (s.heap.push { cls := .type "tuple_iterator", data := .fields #[.ref a, .int 0 0] }).objs.size)))
        { s with heap := (s.heap.push { cls := .type "tuple_iterator", data := .fields #[.ref a, .int 0 0] }).push { cls := .type "enumerate", data := .fields #[.none, .bool false, .ref s.heap.objs.size, rawInt 0, .none, .none] } }) :=
  .of_wp fun prog w A R s go => by
    obtain ⟨hp, g, d, tk, os⟩ := s
    obtain ⟨ht, end_⟩ := go
    have isub := sub_enumerate
    have it : ∀ {A' : Around} {E : Value → Shared → Prop} {Q : Value → Shared → Prop}, Q (.ref hp.objs.size) ⟨hp.push { cls := .type "tuple_iterator", data := .fields #[.ref a, .int 0 0] }, g, d, tk, os⟩ → wpAny (model prog w) A' (pyIter (.ref a)) Q E ⟨hp, g, d, tk, os⟩ :=
      fun q => wpAny_pyIter_tuple ht q
    wp_walk using it
    refine wpAny_stack_any fun st => wpAny_pure ?_
    split
    · rename_i c _ _ _ _ _
      cases (c == Value.type "enumerate")
      · wp_walk using it
        exact ⟨_, rfl, end_⟩
      · wp_walk using it
        exact ⟨_, rfl, end_⟩
    · wp_walk using it
      exact ⟨_, rfl, end_⟩
section
variable {prog : Program} {w : World} {A : Around} {E : Value → Shared → Prop} {s : Shared}
theorem enum_tup {a : Addr} {items : Array Value} {Q : Value → Shared → Prop} (ht : s.heap.IsTuple a items)
    (q : ∀ h', IsEnum h' (s.heap.objs.size + 1) s.heap.objs.size 0 .none → h'.IsTupleIter s.heap.objs.size a 0 → (∀ b o, s.heap.get? b = some o → h'.get? b = some o) → Q (.ref (s.heap.objs.size + 1)) { s with heap := h' }) :
    wpAny (model prog w) A (call (.type "enumerate") [.ref a]) Q E s := by
  refine callType_new F.called_enumerate (by decide) (F.typeCall_enumerate_1 _) (F.newCall_enumerate_1 _) (fun obj => F.args_object_init_2 obj _) F.entry_enumerate_new (enum_tup_meets a items) ⟨ht, ?_⟩
  generalize e1 : s.heap.push { cls := .type "tuple_iterator", data := .fields #[.ref a, .int 0 0] } = h1
  have z1 : h1.objs.size = s.heap.objs.size + 1 := by rw [← e1]; exact Heap.size_push ..
  have k1 : ∀ b o, s.heap.get? b = some o → h1.get? b = some o := fun b o x => by rw [← e1]; exact Heap.get?_push_of_some _ x
  have i1 : h1.IsTupleIter s.heap.objs.size a 0 := by rw [← e1]; exact ⟨_, Heap.get?_push_size _ rfl, rfl, rfl⟩
  show _ ∧ _
  generalize e2 : h1.push { cls := .type "enumerate", data := .fields #[.none, .bool false, .ref s.heap.objs.size, rawInt 0, .none, .none] } = h2
  have n2 : IsEnum h2 (s.heap.objs.size + 1) s.heap.objs.size 0 .none := by
    rw [← z1, ← e2]; exact Heap.get?_push_size _ rfl
  rw [z1]
  exact ⟨⟨_, n2, rfl⟩, q h2 n2 (i1.at fun o x => by rw [← e2]; exact Heap.get?_push_of_some _ x) fun b o x => by rw [← e2]; exact Heap.get?_push_of_some _ (k1 b o x)⟩
end
/-- the tuple at a, each item in a new pair -/
def IteT (K : PySem.W.Frag) (a : Addr) : It :=
  ⟨fun i H => ∃ (xs : List V) (x : V), SqT K H a xs ∧ xs[i]? = some x,
   fun i H v H' => ∃ T x, v = .ref T ∧ H T = none ∧ H' = upd H T (.tup [.int (i : Nat), x]) ∧ ∀ xs, SqT K H a xs → xs[i]? = some x,
   fun i H => ∃ xs : List V, SqT K H a xs ∧ xs.length ≤ i⟩
theorem turn_enumT {P : Program} {w : World} {K : PySem.W.Frag} {elts : List Expr} {kk : Nat} {tpos : Pos} (a e it : Addr) :
    Turn P w K (.Tuple elts kk tpos) (IteT K a) [e, it] e (fun i h => (∃ old, IsEnum h e it ((i : Nat) : Int) old) ∧ h.IsTupleIter it a i ∧ e ≠ it) where
  mem := by simp
  obj := fun i h st b hb => by
    obtain ⟨⟨old, he⟩, ⟨o, ho, hc, hd⟩, _⟩ := st
    rcases (by simpa using hb : b = e ∨ b = it) with rfl | rfl
    · exact ⟨_, he, fun v q => nomatch q⟩
    · exact ⟨o, ho, fun v q => by rw [hd] at q; cases q⟩
  keep := fun i h h' ⟨⟨old, he⟩, hi, hne⟩ k => ⟨⟨old, k e (by simp) _ he⟩, hi.at fun o q => k it (by simp) o q, hne⟩
  item := by
    rintro X rfl rfl rfl hc i pins s σ H E I hf ⟨⟨old, he⟩, hit, hne⟩ ⟨xs, x, hq, hx⟩
    obtain ⟨its, rv, tp, hz⟩ := I.tuple hq
    obtain ⟨u, hu, ru⟩ := rv.get hx
    have lt1 : e < s.heap.objs.size := Heap.lt_size he
    have lt2 : it < s.heap.objs.size := by obtain ⟨_, q, _⟩ := hit; exact Heap.lt_size q
    have nit : a ≠ it := by
      rintro rfl
      obtain ⟨o, q1, q2, _⟩ := hit
      obtain ⟨o', p1, p2, _⟩ := tp
      rw [q1] at p1; cases p1; rw [q2] at p2; injection p2 with z; exact absurd z (by decide)
    have ne' : a ≠ e := by
      rintro rfl
      obtain ⟨o', p1, p2, _⟩ := tp
      rw [show s.heap.get? a = some _ from he] at p1; cases p1; injection p2 with z; exact absurd z (by decide)
    have D := Draws.tuple (prog := X.prog) (w := X.w) (A := X.A.in1) (I.ok.hd hc) it a nit its.toArray
    have hlt : i < its.toArray.size := by
      have := (List.getElem?_eq_some_iff.mp hu).1
      simpa using this
    refine wpAny_pyNext_enum_itemD D he ⟨hit, tp⟩ hlt hne (by simp [hne, Ne.symm ne']) fun x2 h' tk hP out st' hT hsz hk => ?_
    have ex : x2 = u := by
      have hP : its.toArray[i]? = some x2 := hP
      have : its[i]? = some x2 := by simpa using hP
      rw [hu] at this; cases this; rfl
    subst ex
    refine ⟨_, rfl, wpAny_letOwnedTupleGo_enum (s := { s with heap := h', toks := tk + 1 }) out fun h2 he2 sb => ?_⟩
    have atT : h2.get? s.heap.objs.size = some { cls := .type "tuple", data := .seq #[.int i tk, x2] } := (sb.2 _ (Nat.ne_of_gt lt1)).trans hT
    have J : Inv X pins σ (upd H s.heap.objs.size (.tup [.int (i : Nat), x])) { s with heap := h2, toks := tk + 1 } := by
      refine I.turnedNew (ch := [e, it]) (fun b ob hb q => ?_) hf (Nat.le_refl _) ⟨by rw [sizeLine_eq]; show 2 ≤ _; decide, [.int i tk, x2], .cons ⟨_, rfl⟩ (.cons ru .nil), ⟨_, atT, rfl, _, rfl⟩⟩
      have b1 : b ≠ e := fun z => hb (by simp [z])
      have b2 : b ≠ it := fun z => hb (by simp [z])
      exact (sb.2 b b1).trans (hk b ob b1 b2 q)
    refine ⟨.ref s.heap.objs.size, _, J, rfl, ⟨_, x, rfl, I.hok.fresh (Nat.le_refl _), rfl, fun ys hy => by rw [I.tuple_inj hy hq]; exact hx⟩, ⟨⟨x2, ?_⟩, ?_, hne⟩, fun b hb => ?_⟩
    · have : ((i + 1 : Nat) : Int) = (i : Int) + 1 := by omega
      rw [this]; exact he2
    · exact st'.1.at fun o q => (sb.2 it (Ne.symm hne)).trans q
    · have lb : b < s.heap.objs.size := by
        rcases (by simpa using hb : b = e ∨ b = it) with rfl | rfl
        · exact lt1
        · exact lt2
      rw [upd_ne (Nat.ne_of_lt lb)]
      exact (hf b hb).1
  done := by
    rintro X rfl rfl rfl hc i pins s σ H E I hf ⟨⟨old, he⟩, hit, hne⟩ ⟨xs, hq, hx⟩
    obtain ⟨its, rv, tp, hz⟩ := I.tuple hq
    obtain ⟨f0, f1, f2, f3, f4, f5⟩ := hf it (by simp)
    have nl := rv.length
    have nit : a ≠ it := by
      rintro rfl
      obtain ⟨o, q1, q2, _⟩ := hit
      obtain ⟨o', p1, p2, _⟩ := tp
      rw [q1] at p1; cases p1; rw [q2] at p2; injection p2 with z; exact absurd z (by decide)
    have D : Draws X.prog X.w X.A.in1 it [it, a] i (fun _ _ => True) (fun j h => j = i ∧ h.IsTupleIter it a i ∧ h.IsTuple a its.toArray) := by
      refine ⟨fun _ _ ⟨_, ⟨o, ho, _⟩, _⟩ => ⟨o, ho⟩, fun _ _ _ ⟨z, s1, s2⟩ hk => ⟨z, s1.at fun o e => hk it (by simp) o e, s2.at fun o e => hk a (by simp) o e⟩, ?_, ?_⟩
      · rintro j s Q E hj ⟨rfl, _⟩
        omega
      · rintro s Q E ⟨_, s1, s2⟩ hE
        exact wpAny_nextOf_tuple_end (I.ok.hd hc) s1 s2 (by simp; omega) hE
    refine wpAny_pyNext_enum_endD D he ⟨rfl, hit, tp⟩ fun h' eb => ⟨rfl, I.turned (t' := s.toks) (fun b o hb q => eb b o hb q) f0 f1 f3 f4 f5⟩
  self := fun A i s Q E ⟨⟨_, he⟩, _⟩ h => wpAny_pyIter_enum he h
end Yv

set_option Elab.async false
set_option linter.all false
set_option maxRecDepth 100000
set_option maxHeartbeats 4000000
/-! I16: methods of built-in types -/
namespace Yv
open PySem L2 PySem.Spec PyProof.Rows
/-! ### the call of a method, its type known late -/
def tyY (K : PySem.W.Frag) (T : String) (x : V) (H : Hp) : Prop := tyV K T x H ∨ (T = "tuple" ∧ ∃ (p : Addr) (ob : Obj) (xs : List V), x = .ref p ∧ ob.dict = none ∧ H p = some (.frz ob (.tup xs)))
section
variable {X : Cx} {o e : Expr} {es : List Expr} {to : TE} {t : TA} {name : Str} {apos cpos : Pos} {T1 T2 id1 id2 : String} {r1 r2 : V → List V → Hp → VK → Prop}
theorem tyY_is {pins : List (Addr × Obj)} {σ : L2.St} {H : Hp} {s : Shared} {T : String} {x : V} {v : Value} (I : Inv X pins σ H s) (r : RelV x v) (ty : tyY X.K T x H) : s.TypeIs v T ∧ ∀ a, v = .ref a → ∃ ob, s.heap.get? a = some ob ∧ ob.dict = none := by
  rcases ty with ty | ⟨rfl, p, ob, xs, rfl, nd, e⟩
  · exact tyV_is I r ty
  · cases r
    obtain ⟨g, ok⟩ := I.hok p _ e
    obtain ⟨_, its, _, o', g', c, _⟩ := (show ObjOk X.prog X.w H s.heap p (.tup xs) from ok)
    rw [g] at g'; cases g'
    exact ⟨⟨ob, g, c⟩, fun a z => by cases z; exact ⟨ob, g, nd⟩⟩
structure MtOk (X : Cx) (T : String) (name : Str) (id : String) (r : V → List V → Hp → VK → Prop) : Prop where
  pa : PlainAttrs T
  slot : Slot T name id
  ty : typeOf (.builtin id) = pure (.type "method_descriptor")
  mt : MtR X id r
def tBMY (K : PySem.W.Frag) (T1 T2 : String) (r1 r2 : V → List V → Hp → VK → Prop) (to : TE) (t : TA) : TE := fun σ H Q => to σ H fun x H1 =>
  (tyY K T1 x H1 ∧ t σ H1 fun xs H2 => r1 x xs H2 Q) ∨ (tyY K T2 x H1 ∧ t σ H1 fun xs H2 => r2 x xs H2 Q)
theorem pe_bmY (m1 : MtOk X T1 name id1 r1) (m2 : MtOk X T2 name id2 r2) (ho : PE X o to) (ha : PA X (e :: es) t) (hbase : attributeBase o name X.env (eval o X.env) = eval o X.env)
    (hfew : ((backTo cpos (starEach (e :: es) X.env)).all (fun x => !x.1) && (backToKw cpos (keywordEach [] X.env)).all (fun x => x.1.isSome) && decide ((e :: es).length + ([] : List Keyword).length + (if ([] : List Keyword).isEmpty then 0 else 1) < 30)) = true)
    (hline : (apos.endLine == cpos.line) = true) (hs : starEach (e :: es) X.env = (false, eval e X.env) :: starEach es X.env) (hplain : (backTo cpos (starEach es X.env)).any (·.1) = false) :
    PE X (.Call (.Attribute o name apos) (e :: es) [] cpos) (tBMY X.K T1 T2 r1 r2 to t) := by
  constructor
  intro pins s σ H Q I go
  refine wpAny_Call_method_late hbase hfew hline rfl (thn (ho.run pins s σ H _ I go) fun v s1 ⟨x, H1, I1, rx, q⟩ => ?_)
  have pl : (false || (backTo cpos (starEach es X.env)).any (·.1)) = false := by rw [hplain]; rfl
  rcases q with ⟨ty, q⟩ | ⟨ty, q⟩
  · obtain ⟨g1, g2⟩ := tyY_is I1 rx ty
    refine ⟨T1, id1, m1.pa, m1.slot, m1.ty, g1, g2, ?_⟩
    have run := ha.run cpos pins s1 σ H1 _ I1 q
    rw [hs] at run ⊢
    exact Calls.callWith_builtin pl (Calls.evalArgs_plain (thn run fun us s2 ⟨vs, H2, I2, rv, q2⟩ => m1.mt pins s2 σ H2 x vs v us Q I2 rx rv q2))
  · obtain ⟨g1, g2⟩ := tyY_is I1 rx ty
    refine ⟨T2, id2, m2.pa, m2.slot, m2.ty, g1, g2, ?_⟩
    have run := ha.run cpos pins s1 σ H1 _ I1 q
    rw [hs] at run ⊢
    exact Calls.callWith_builtin pl (Calls.evalArgs_plain (thn run fun us s2 ⟨vs, H2, I2, rv, q2⟩ => m2.mt pins s2 σ H2 x vs v us Q I2 rx rv q2))
theorem pe_bmY0 (m1 : MtOk X T1 name id1 r1) (m2 : MtOk X T2 name id2 r2) (ho : PE X o to) (hbase : attributeBase o name X.env (eval o X.env) = eval o X.env) (hline : (apos.endLine == cpos.line) = true) :
    PE X (.Call (.Attribute o name apos) [] [] cpos) (tBMY X.K T1 T2 r1 r2 to tNil) := by
  constructor
  intro pins s σ H Q I go
  refine wpAny_Call_method0_late hbase hline (thn (ho.run pins s σ H _ I go) fun v s1 ⟨x, H1, I1, rx, q⟩ => ?_)
  rcases q with ⟨ty, q⟩ | ⟨ty, q⟩
  · obtain ⟨g1, g2⟩ := tyY_is I1 rx ty
    exact ⟨T1, id1, m1.pa, m1.slot, m1.ty, g1, g2, Calls.callWith_builtin rfl (PySem.evalArgs_none (m1.mt pins s1 σ H1 x [] v [] Q I1 rx .nil q))⟩
  · obtain ⟨g1, g2⟩ := tyY_is I1 rx ty
    exact ⟨T2, id2, m2.pa, m2.slot, m2.ty, g1, g2, Calls.callWith_builtin rfl (PySem.evalArgs_none (m2.mt pins s1 σ H1 x [] v [] Q I1 rx .nil q))⟩
/-- t.index(x) -/
def rIndexT (K : PySem.W.Frag) : V → List V → Hp → VK → Prop := fun x xs H Q => ∃ (a : Addr) (y : V) (d : PyData) (ds : List PyData) (j : Nat) (z : PyData), x = V.ref a ∧ xs = [y] ∧ Dp K H (V.ref a) (.tuple ds) ∧ Dp K H y d ∧
  SeqAt.shaped (.tuple ds) = true ∧ SeqAt.shaped d = true ∧ ds[j]? = some z ∧ PyData.eqv z d = true ∧ (∀ (m : Nat) (z' : PyData), m < j → ds[m]? = some z' → PyData.eqv z' d = false) ∧ Q (.int (j : Nat)) H
theorem mt_indexT (hu : X.A.units + 65 < cLine) : MtR X "tuple.index" (rIndexT X.K) := by
  intro pins s σ H x xs v us Q I rx rxs h
  obtain ⟨a, y, d, ds, j, z, rfl, rfl, hl, hy, sl, sd, hz, hzj, hno, q⟩ := h
  cases rx
  cases rxs with
  | cons ry rt =>
    rename_i uy ut
    cases rt
    obtain ⟨bs, rd⟩ := Dp.reads I d y uy hy ry
    have lay : PyData.canLayAll0 ds = true := SeqAt.canLay_of_shaped sl
    have room : X.A.units + 1 + min (PyData.depthAll ds) d.depth < cLine := room_in_shaped sd hu
    cases hl with
    | tup hs ha =>
      obtain ⟨its, rv, ⟨⟨cls, dd, data, sls⟩, ho, hc, n, hdt⟩, hlen⟩ := I.tuple hs
      simp only at hc hdt
      subst hc hdt
      obtain ⟨as, rall⟩ := Dp.readsAll I ds _ its ha rv
      have n1 : its.length = ds.length := SeqAt.ReadsAll.length ds its as rall
      have mp : its.map (SeqAt.readOf s.heap) = ds := SeqAt.readsAll_map ds its as lay rall
      obtain ⟨jd, _⟩ := List.getElem?_eq_some_iff.mp hz
      have jl : j < its.toArray.size := by simp; omega
      have val : ∀ (m : Nat) (hm : m < its.toArray.size) (z' : PyData), ds[m]? = some z' → SeqAt.readOf s.heap its.toArray[m] = z' := by
        intro m hm z' hz'
        have hml : m < its.length := by simpa using hm
        rw [← mp, List.getElem?_map, List.getElem?_eq_getElem hml] at hz'
        have := Option.some.inj hz'
        simpa using this
      have found := SeqAt.tuple_index2_found a its.toArray n dd sls uy (fun m => match its[m]? with | some u => PyData.eqv (SeqAt.readOf s.heap u) d | none => false) j jl (Nat.zero_le _) jl ?_ ?_
      · refine call_meets F.slot_tuple_index ⟨_, ho, rfl⟩ F.entry_tuple_index (F.args_tuple_index_2 _ _) found ⟨ho, fun m hm => ?_, ⟨.int (j : Nat), H, I.tok _, ⟨_, rfl⟩, q⟩⟩
        have hml : m < its.length := by simpa using hm
        have q := SeqAt.items_eqAt (A := X.A) (vs := its.toArray) (show ReadsAll s.heap its.toArray.toList ds as from rall) rd lay (SeqAt.canLay_of_shaped sd) room its.toArray[m] (Array.getElem_mem hm)
        rw [List.getElem?_eq_getElem hml]
        simpa using q
      · have hml : j < its.length := by simpa using jl
        rw [List.getElem?_eq_getElem hml]
        have := val j jl z hz
        have e1 : its.toArray[j] = its[j] := by simp
        rw [e1] at this
        show PyData.eqv (SeqAt.readOf s.heap its[j]) d = true
        rw [this]; exact hzj
      · intro m hm _ hmj
        have hml : m < its.length := by simpa using hm
        have hmd : m < ds.length := by omega
        rw [List.getElem?_eq_getElem hml]
        have := val m hm _ (List.getElem?_eq_getElem hmd)
        have e1 : its.toArray[m] = its[m] := by simp
        rw [e1] at this
        show PyData.eqv (SeqAt.readOf s.heap its[m]) d = false
        rw [this]; exact hno m _ hmj (List.getElem?_eq_getElem hmd)
end
end Yv

set_option Elab.async false
set_option linter.all false
set_option maxRecDepth 100000
set_option maxHeartbeats 4000000
/-! I17: methods: meanings -/
namespace Yv
open PySem L2 PySem.Spec PyProof.Rows
/-! ### a slot's own thing is changed -/
section
variable {w : Wc} {Z Z1 : Zp} {H H1 H2 : Hp} {δ : Env'} {σ : L2.St} {F : Fp}
/-- H' differs from H at O alone -/
structure Chg (H H' : Hp) (O : List Addr) : Prop where
  out : ∀ b, b ∉ O → H' b = H b
  at_ : ∀ b ∈ O, ∃ o, H' b = some o
theorem ER.change (e : ER w.K Z H δ σ F) {i : Nat} {d d' : D} (hd : δ[i]? = some (some d)) (c : Chg H H1 (F i)) (r : ∀ v, σ[i]? = some (some v) → Rep w.K Z H1 d' v (F i)) :
    ER w.K Z H1 (δ.set i (some d')) σ F ∧ Post Z H (Pf F) Z H1 (Pf F) := by
  have hi : i < δ.length := (List.getElem?_eq_some_iff.mp hd).1
  obtain ⟨v0, e0, _⟩ := e.rep i d hd
  have kp : ∀ a o, Z a → H a = some o → H1 a = some o := fun a o z q => by rw [c.out a fun m => e.nz i a m z]; exact q
  refine ⟨⟨by rw [List.length_set]; exact e.len, fun j d2 q => ?_, fun j q => ?_, e.nd, e.dj, e.nz, fun a z => ?_⟩, ⟨fun _ z => z, fun _ z => .inl z, fun _ z => .inl z, fun a o q n => ?_⟩⟩
  · by_cases hj : j = i
    · subst hj
      rw [List.getElem?_set_self hi] at q; cases q
      exact ⟨v0, e0, r v0 e0⟩
    · rw [List.getElem?_set_ne (Ne.symm hj)] at q
      obtain ⟨v, q1, q2⟩ := e.rep j d2 q
      exact ⟨v, q1, q2.mono ⟨fun _ z => z, kp⟩ fun a m o q => by rw [c.out a fun m' => hj (e.dj j i a m m')]; exact q⟩
  · by_cases hj : j = i
    · subst hj
      exact absurd (List.getElem?_set_self hi) (q d')
    · exact e.emp j fun d2 q' => q d2 (by rw [List.getElem?_set_ne (Ne.symm hj)]; exact q')
  · obtain ⟨o, q⟩ := e.zt a z
    exact ⟨o, kp a o z q⟩
  · rw [c.out a fun m => n ⟨i, m⟩]; exact q
end
/-- what a method makes of the receiver and the arguments: the receiver anew (or none: as it was), the answer -/
abbrev PM := D → List D → Option (Option D × D)
def PrM (K : PySem.W.Frag) (r : V → List V → Hp → VK → Prop) (P : PM) : Prop := ∀ (Z : Zp) (H : Hp) (d : D) (x : V) (O : List Addr) (ds : List D) (xs : List V) (out : Option D × D) (Q : VK),
  Rep K Z H d x O → (∀ a ∈ O, ¬ Z a) → DVs K Z H ds xs → (∀ a, Z a → ∃ o, H a = some o) → P d ds = some out →
  (match out with
   | (none, res) => ∀ v Z' H' O', Rep K Z' H' res v O' → Fresh Z H Z' H' O' → Q v H'
   | (some d', res) => ∀ v H', Chg H H' O → Rep K Z H' d' x O → Rep K Z H' res v [] → Q v H') → r x xs H Q
def tyM : D → Option String
  | .tup _ => some "tuple"
  | .lst _ _ => some "list"
  | .scr _ => some "list"
  | .dct _ _ => some "dict"
  | .str _ => some "str"
  | _ => none
theorem tyM_rep {K : PySem.W.Frag} {Z : Zp} {H : Hp} {d : D} {v : V} {O : List Addr} {T : String} (r : Rep K Z H d v O) (h : tyM d = some T) : tyY K T v H := by
  cases d with
  | tup ds =>
    cases h
    obtain ⟨a, vs, rfl, t, _⟩ := r
    rcases t with ⟨_, ob, nd, e⟩ | ⟨o, its, n, e, c, nd, _⟩
    · exact .inr ⟨rfl, a, ob, vs, rfl, nd, e⟩
    · exact .inl (.inr (.inl ⟨rfl, o, e, c, nd⟩))
  | lst o ds =>
    cases h
    cases o with
    | false => obtain ⟨a, vs, rfl, t, _⟩ := r; exact .inl (.inl ⟨rfl, vs, .of t.2⟩)
    | true => obtain ⟨a, vs, O', rfl, t, _⟩ := r; exact .inl (.inl ⟨rfl, vs, .of t⟩)
  | scr ns => cases h; obtain ⟨⟨a, rfl, t⟩, _⟩ := r; exact .inl (.inl ⟨rfl, _, t.sq⟩)
  | dct o kvs =>
    cases h
    obtain ⟨a, u, vs, O', rfl, ha, dh, _⟩ := rep_dctH r
    rcases dh with ⟨ks, rfl, _⟩ | ⟨ks, rfl, _⟩
    · exact .inl (.inr (.inr (.inl ⟨rfl, .inl ⟨ks, ha⟩⟩)))
    · exact .inl (.inr (.inr (.inl ⟨rfl, .inr ⟨ks, ha⟩⟩)))
  | str z => cases h; rw [r.1]; exact .inl rfl
  | _ => cases h
/-- the end of a method's call -/
def mMeEnd (P : PM) (a : A) (ds : List D) (δ : Env') : R A := match resA δ a with
  | none => .fail
  | some d => match P d ds with
    | none => .fail
    | some (none, res) => .ok (.dt res) δ
    | some (some d', res) => match a with
      | .nm i => .ok (.dt res) (δ.set i (some d'))
      | .dt _ => .fail
def mMe (T1 T2 : String) (P1 P2 : PM) (ma : Mn A) (ms : Mn (List A)) : Mn A := fun δ => (ma δ).bind fun a δ1 => match resA δ1 a with
  | none => .fail
  | some d =>
    if tyM d = some T1 then (ms δ1).bind fun as δ2 => match resAs δ2 as with
      | some ds => mMeEnd P1 a ds δ2
      | none => .fail
    else if tyM d = some T2 then (ms δ1).bind fun as δ2 => match resAs δ2 as with
      | some ds => mMeEnd P2 a ds δ2
      | none => .fail
    else .fail
section
variable {w : Wc} {σ : L2.St} {H : Hp}
theorem tMe {T1 T2 : String} {r1 r2 : V → List V → Hp → VK → Prop} {P1 P2 : PM} (h1 : PrM w.K r1 P1) (h2 : PrM w.K r2 P2) {ma : Mn A} {ms : Mn (List A)} {Q : VK} (h : tA w (mMe T1 T2 P1 P2 ma ms) σ H Q) :
    tBMY w.K T1 T2 r1 r2 (tA w ma) (tAs w ms) σ H Q := by
  obtain ⟨Z, δ, F, e, h⟩ := h
  refine ⟨Z, δ, F, e, ?_⟩
  unfold mMe at h
  cases qa : ma δ with
  | fail => rw [qa] at h; exact h
  | exc x δ1 => rw [qa] at h; exact h
  | ok a δ1 =>
    rw [qa] at h
    simp only [R.bind_ok] at h
    intro v1 Z1 H1 F1 O1 e1 r1' t1 p1
    cases ra : resA δ1 a with
    | none => rw [ra] at h; exact h.elim
    | some d =>
      rw [ra] at h
      dsimp only at h
      obtain ⟨P0, rp⟩ := e1.opnd r1' ra
      -- both ways alike
      have core : ∀ {r : V → List V → Hp → VK → Prop} {P : PM}, PrM w.K r P →
          (match ((ms δ1).bind fun as δ2 => match resAs δ2 as with | some ds => mMeEnd P a ds δ2 | none => R.fail : R A) with
            | .ok a δ' => ∀ v Z' H' F' O, ER w.K Z' H' δ' σ F' → RepA w.K Z' H' σ a v O → Tmp Z' F' O → Post Z H (Pf F) Z' H' (fun a => Pf F' a ∨ a ∈ O) → Q v H'
            | .exc x δ' => xOut w σ Z H F x δ'
            | .fail => False) → tAs w ms σ H1 fun xs H2 => r v1 xs H2 Q := by
        intro r P hp h
        refine ⟨Z1, δ1, F1, e1, ?_⟩
        cases qb : ms δ1 with
        | fail => rw [qb] at h; exact h
        | exc x δ2 => rw [qb] at h; exact xOut_on h p1 fun _ z => .inl z
        | ok as δ2 =>
          rw [qb] at h
          simp only [R.bind_ok] at h
          intro vs Z2 H2 F2 Os e2 r2' t2 p2
          have r1'' : RepA w.K Z2 H2 σ a v1 O1 := r1'.mono (p2.zx e1.zP) (t1.stays p2)
          have p12 := p1.then p2
          cases rs : resAs δ2 as with
          | none => rw [rs] at h; exact h.elim
          | some ds =>
            rw [rs] at h
            dsimp only at h
            unfold mMeEnd at h
            cases ra2 : resA δ2 a with
            | none => rw [ra2] at h; exact h.elim
            | some d2 =>
              rw [ra2] at h
              dsimp only at h
              cases hP : P d2 ds with
              | none => rw [hP] at h; exact h.elim
              | some out =>
                obtain ⟨dn, res⟩ := out
                rw [hP] at h
                have t1' : Tmp Z2 F2 O1 := t1.on r1'.trk p2 fun i a m => .inl ⟨i, m⟩
                cases a with
                | dt d0 =>
                  cases dn with
                  | some d' => exact h.elim
                  | none =>
                    cases ra2
                    exact hp Z2 H2 d2 v1 O1 ds vs _ Q r1'' t1'.nz (e2.opnds r2' rs) e2.zt hP fun v Z3 H3 O r3 f3 => fin_made h e2 p12 (fun a z => .inl (.inl z)) r3 f3
                | nm i =>
                  have hδ := join_some ra2
                  obtain ⟨v', ev, rep⟩ := e2.rep i d2 hδ
                  rw [r1''.1] at ev; cases ev
                  cases dn with
                  | none => exact hp Z2 H2 d2 v1 (F2 i) ds vs _ Q rep (e2.nz i) (e2.opnds r2' rs) e2.zt hP fun v Z3 H3 O r3 f3 => fin_made h e2 p12 (fun a z => .inl (.inl z)) r3 f3
                  | some d' =>
                    refine hp Z2 H2 d2 v1 (F2 i) ds vs _ Q rep (e2.nz i) (e2.opnds r2' rs) e2.zt hP fun v H3 ch rd rr => ?_
                    obtain ⟨e3, p3⟩ := e2.change hδ ch fun v2 q2 => by rw [r1''.1] at q2; cases q2; exact rd
                    refine h v Z2 H3 F2 [] e3 rr .nil (postNil ?_)
                    exact (p12.drop (P3 := Pf F2) fun a z => .inl (.inl z)).trans p3
      by_cases c1 : tyM d = some T1
      · rw [if_pos c1] at h
        exact .inl ⟨tyM_rep rp c1, core h1 h⟩
      · rw [if_neg c1] at h
        by_cases c2 : tyM d = some T2
        · rw [if_pos c2] at h
          exact .inr ⟨tyM_rep rp c2, core h2 h⟩
        · rw [if_neg c2] at h; exact h.elim
/-- arguments frozen -/
def mFz (m : Mn A) : Mn A := fun δ => (mVal m δ).bind fun d δ1 => .ok (.dt d.frz) δ1
theorem tA_fz {m : Mn A} {H : Hp} {Q : VK} (h : tA w (mFz m) σ H Q) : tA w m σ H Q := by
  refine tA_val ?_
  obtain ⟨Z, δ, F, e, h⟩ := h
  refine ⟨Z, δ, F, e, ?_⟩
  unfold mFz at h
  cases q : mVal m δ with
  | fail => rw [q] at h; exact h
  | exc x δ1 => rw [q] at h; exact h
  | ok d δ1 =>
    rw [q] at h
    simp only [R.bind_ok] at h
    intro v Z1 H1 F1 O e1 r1 t1 p1
    have tr := r1.trk
    have zt' : ∀ a, Z1 a ∨ a ∈ O → ∃ o, H1 a = some o := fun a z => z.elim (e1.zt a) (tr a)
    have e2 : ER w.K (fun a => Z1 a ∨ a ∈ O) H1 δ1 σ F1 := ⟨e1.len, fun i d' q => by
      obtain ⟨v', q1, q2⟩ := e1.rep i d' q
      exact ⟨v', q1, q2.mono ⟨fun _ z => .inl z, fun _ _ _ q => q⟩ fun _ _ _ q => q⟩, e1.emp, e1.nd, e1.dj, fun i a m z => z.elim (e1.nz i a m) fun z => t1.dj a z i m, zt'⟩
    refine h v _ H1 F1 [] e2 (r1.frz (fun _ z => .inl z) fun a m => .inr m) .nil (postNil ?_)
    exact ⟨fun a z => .inl (p1.zm a z), fun a z => z.elim (p1.zn a) fun z => .inr (p1.on a (.inr z)), fun a z => p1.on a (.inl z), p1.kp⟩
end
end Yv

set_option Elab.async false
set_option linter.all false
set_option maxRecDepth 100000
set_option maxHeartbeats 4000000
/-! I18: methods of lists, tuples, dicts -/
namespace Yv
open PySem L2 PySem.Spec PyProof.Rows
section
variable {K : PySem.W.Frag} {Z : Zp} {H : Hp}
theorem chg_list {a : Addr} {vs vs' : List V} {ds' : List D} (hn : ¬ Z a) (zt : ∀ a, Z a → ∃ o, H a = some o) (r : RepL K Z H ds' vs' []) : Chg H (upd H a (.lst vs')) [a] ∧ Rep K Z (upd H a (.lst vs')) (.lst true ds') (.ref a) [a] := by
  refine ⟨⟨fun b m => upd_ne fun e => m (by rw [e]; simp), fun b m => ⟨.lst vs', by rw [List.mem_singleton.mp m, upd_same]⟩⟩, a, vs', [], rfl, upd_same, rfl, ?_⟩
  exact r.mono ⟨fun _ z => z, fun b o z q => by rw [upd_ne (fun e => hn (by rw [← e]; exact z))]; exact q⟩ (fun _ m => by cases m)
theorem rep_upd {a : Addr} {u : HO} {d : D} {v : V} (hn : ¬ Z a) (r : Rep K Z H d v []) : Rep K Z (upd H a u) d v [] :=
  r.mono ⟨fun _ z => z, fun b o z q => by rw [upd_ne (fun e => hn (by rw [← e]; exact z))]; exact q⟩ (fun _ m => by cases m)
/-- an own list of pure things -/
theorem own_lst {ds : List D} {x : V} {O : List Addr} (r : Rep K Z H (.lst true ds) x O) (p : D.pureL ds = true) : ∃ a vs, x = .ref a ∧ H a = some (.lst vs) ∧ O = [a] ∧ RepL K Z H ds vs [] := by
  obtain ⟨a, vs, O', e, t, eO, rl⟩ := r
  have := RepL.pure p rl
  subst this
  exact ⟨a, vs, e, t, eO, rl⟩

/-! ### append, extend, pop -/
def pAppend : PM
  | .lst true ds, [y] => if D.pureL ds && y.pure && sizeOk ds.length then some (some (.lst true (ds ++ [y])), .non) else none
  | _, _ => none
theorem pr_append : PrM K rAppend pAppend := by
  intro Z H d x O ds xs out Q r on dv zt h k
  unfold pAppend at h
  split at h
  · rename_i es y
    obtain ⟨c, rfl⟩ := if_some h
    simp only [Bool.and_eq_true] at c
    obtain ⟨a, vs, rfl, ha, rfl, rl⟩ := own_lst r c.1.1
    obtain ⟨v, P, rfl, ry⟩ := dvs1 dv
    have hn : ¬ Z a := on a (by simp)
    have rl' : RepL K Z H (es ++ [y]) (vs ++ [v]) [] := rl.append (O2 := []) ⟨v, [], [], [], rfl, rfl, ry.pureO c.1.2, rfl, rfl⟩
    obtain ⟨c1, c2⟩ := chg_list (vs := vs) hn zt rl'
    exact ⟨a, vs, v, rfl, rfl, ha, by rw [← rl.length]; exact sizeOk_lt c.2, k .non _ c1 c2 ⟨rfl, rfl⟩⟩
  · cases h
def pExtend : PM
  | .lst true ds, [y] => match itS y with
    | some es => if D.pureL ds && sizeOk (ds.length + es.length) then some (some (.lst true (ds ++ es)), .non) else none
    | none => none
  | _, _ => none
theorem extend_sq {X : Cx} {l : Addr} {its its2 : List Value} {n n2 : Nat} {b : Addr} {ob : Obj} {pins : List (Addr × Obj)} {s : Shared} {Q : Value → Shared → Prop} (e : s.heap.get? l = some { cls := .type "list", data := .seq its.toArray n })
    (e2 : s.heap.get? b = some ob) (hc : ob.cls = .type "list" ∨ ob.cls = .type "tuple") (hd : ob.data = .seq its2.toArray n2) (hz : its.length + its2.length ≤ sizeLine)
    (q : Q .none { s with heap := s.heap.update l (Obj.mapSeq (· ++ its2.toArray)) }) : wpAny (model X.prog X.w) X.A (call (.builtin "list.extend") [.ref l, .ref b]) Q X.xe s := by
  refine wpAny_call_entry PySem.F.slot_list_extend ⟨_, e, rfl⟩ PySem.F.entry_list_extend ?_ (PySem.F.args_list_extend_2 _ _)
  unfold Builtin.«list.extend»
  refine wpAny_bind (m := selfAndOne "list.extend" _) (wpAny_pure ?_)
  show wpAny (model X.prog X.w) X.A.in1 (Builtin.List.listExtendWith (.ref l) (.ref b) .none) _ _ s
  unfold Builtin.List.listExtendWith
  have go : wpAny (model X.prog X.w) X.A.in1 (do
      let xs ← Builtin.List.listItems (.ref b)
      let mine ← Builtin.List.listItems (.ref l)
      if !mine.isEmpty && Builtin.List.listTooLong (mine.size + xs.size) then unsupported "list.extend:memory"
      Builtin.List.listUpdate (.ref l) (· ++ xs)
      return ← ret .none) (fun fin s' => ∃ v, fin = .done (.ret v) ∧ Q v s') X.xe s := by
    refine wpAny_bind (listItems_at e2 hd (wpAny_bind (listItems_at e rfl ?_)))
    have nl : (!its.toArray.isEmpty && Builtin.List.listTooLong (its.toArray.size + its2.toArray.size)) = false := by
      rw [notLongL (by simpa using hz), Bool.and_false]
    rw [if_neg (by rw [nl]; exact Bool.false_ne_true)]
    refine wpAny_bind (listUpdate_at e rfl ?_ (by simp; omega) (by simp; omega))
    exact wpAny_bind (wpAny_pure (wpAny_pure ⟨_, rfl, q⟩))
  rcases hc with hc | hc
  · refine wpAny_bind (wpAny_typeOf (T := "list") ⟨ob, e2, hc⟩ ?_)
    have ty : (Value.type "list" == Value.type "list") = true := rfl
    rw [if_pos (by rw [ty]; simp)]
    exact go
  · refine wpAny_bind (wpAny_typeOf (T := "tuple") ⟨ob, e2, hc⟩ ?_)
    have ty : (Value.type "tuple" == Value.type "tuple") = true := rfl
    rw [if_pos (by rw [ty]; simp)]
    exact go
def rExtendA (K : PySem.W.Frag) : V → List V → Hp → VK → Prop := fun x vs H Q => ∃ l b xs zs, x = .ref l ∧ vs = [.ref b] ∧ H l = some (.lst xs) ∧ (SqL K H b zs ∨ SqT K H b zs) ∧ xs.length + zs.length ≤ sizeLine ∧ Q .non (upd H l (.lst (xs ++ zs)))
theorem mt_extendA {X : Cx} : MtR X "list.extend" (rExtendA X.K) := by
  intro pins s σ H x vs v us Q I rx rv h
  obtain ⟨l, b, xs, zs, rfl, rfl, hH, hB, hz, q⟩ := h
  cases rx
  obtain ⟨u, rfl, ru⟩ := rv.one
  cases ru
  obtain ⟨z, its, n, r, hl, e⟩ := I.lstM hH
  have both : ∀ {its2 : List Value} {ob : Obj} {n2 : Nat}, Vals zs its2 → s.heap.get? b = some ob → (ob.cls = .type "list" ∨ ob.cls = .type "tuple") → ob.data = .seq its2.toArray n2 →
      wpAny (model X.prog X.w) X.A (call (.builtin "list.extend") [.ref l, .ref b]) (EP X pins σ Q) X.xe s := fun {its2 ob n2} r2 g hc hd => by
    have n2 := r2.length
    have n1 := r.length
    refine extend_sq (pins := pins) e g hc hd (by omega) ⟨.non, _, I.lset (its' := its ++ its2) hH e (by simp) (r.append r2) (by rw [List.length_append]; exact hz), rfl, q⟩
  rcases hB with hB | hB
  · obtain ⟨its2, r2, ⟨ob, n2, g, hc, _, hd⟩, _⟩ := I.list hB
    exact both r2 g (.inl hc) hd
  · obtain ⟨its2, r2, ⟨ob, g, hc, n2, hd⟩, _⟩ := I.tuple hB
    exact both r2 g (.inr hc) hd
theorem pr_extend : PrM K (rExtendA K) pExtend := by
  intro Z H d x O ds xs out Q r on dv zt h k
  unfold pExtend at h
  split at h
  · rename_i es y
    cases hy : itS y with
    | none => rw [hy] at h; cases h
    | some fs =>
      rw [hy] at h
      obtain ⟨c, rfl⟩ := if_some h
      simp only [Bool.and_eq_true] at c
      obtain ⟨a, vs, rfl, ha, rfl, rl⟩ := own_lst r c.1
      obtain ⟨v, P, rfl, ry⟩ := dvs1 dv
      obtain ⟨b, ws, rfl, sq, rl2, _⟩ := itS_rep ry hy
      have hn : ¬ Z a := on a (by simp)
      obtain ⟨c1, c2⟩ := chg_list (vs := vs) hn zt (rl.append rl2)
      exact ⟨a, b, vs, ws, rfl, rfl, ha, sq, by rw [← rl.length, ← rl2.length]; exact sizeOk_le c.2, k .non _ c1 c2 ⟨rfl, rfl⟩⟩
  · cases h
/-- xs.pop(), xs.pop(i) -/
def pPop : PM
  | .lst true ds, [] => if D.pureL ds then (ds[ds.length - 1]?).map fun y => (some (.lst true ds.dropLast), y) else none
  | .lst true ds, [.int i] => if D.pureL ds && in62 i then match seqIndex? i ds.length with
      | some k => (ds[k]?).map fun y => (some (.lst true (ds.eraseIdx k)), y)
      | none => none
    else none
  | _, _ => none
def rPopA : V → List V → Hp → VK → Prop := fun x xs H Q => rPop x xs H Q ∨ rPopAt x xs H Q
theorem pr_pop : PrM K rPopA pPop := by
  intro Z H d x O ds xs out Q r on dv zt h k
  unfold pPop at h
  split at h
  · rename_i es
    split at h
    · rename_i c
      cases hy : es[es.length - 1]? with
      | none => rw [hy] at h; cases h
      | some y =>
        rw [hy] at h; cases h
        obtain ⟨a, vs, rfl, ha, rfl, rl⟩ := own_lst r c
        obtain ⟨v, P, hv, rv, _⟩ := rl.get hy
        have hn : ¬ Z a := on a (by simp)
        have rl' : RepL K Z H es.dropLast vs.dropLast [] := by
          rw [List.dropLast_eq_take, List.dropLast_eq_take, ← rl.length]; exact rl.take _ c
        obtain ⟨c1, c2⟩ := chg_list (vs := vs) hn zt rl'
        have rv0 : Rep K Z H y v [] := rv.pureO (pureL_get c hy)
        have e0 : xs = [] := dv
        exact .inl ⟨a, vs, v, rfl, e0, ha, by rw [← rl.length]; exact hv, k v _ c1 c2 (rep_upd hn rv0)⟩
    · cases h
  · rename_i es i
    split at h
    · rename_i c
      simp only [Bool.and_eq_true, decide_eq_true_eq] at c
      cases hi : seqIndex? i es.length with
      | none => rw [hi] at h; cases h
      | some j =>
        rw [hi] at h
        dsimp only at h
        cases hy : es[j]? with
        | none => rw [hy] at h; cases h
        | some y =>
          rw [hy] at h; cases h
          obtain ⟨a, vs, rfl, ha, rfl, rl⟩ := own_lst r c.1
          obtain ⟨v, P, hv, rv, _⟩ := rl.get hy
          have hn : ¬ Z a := on a (by simp)
          obtain ⟨c1, c2⟩ := chg_list (vs := vs) hn zt (rl.eraseIdx c.1 j)
          obtain ⟨w, P2, rfl, rw'⟩ := dvs1 dv
          rw [rw'.1]
          exact .inr ⟨a, vs, i, j, v, rfl, rfl, ha, in62_lo c.2, in62_hi c.2, by rw [← rl.length]; exact hi, hv, k v _ c1 c2 (rep_upd hn (rv.pureO (pureL_get c.1 hy)))⟩
    · cases h
  · cases h
theorem mt_popA {X : Cx} : MtR X "list.pop" rPopA := MtR.or mt_pop mt_popAt
/-! ### index -/
def pIndex : PM
  | d, [y] => match d.py, y.py with
    | some p, some q => match p with
      | .list ps => if SeqAt.shaped p && SeqAt.shaped q then (ps.findIdx? fun z => PyData.eqv z q).map fun (j : Nat) => (none, .int j) else none
      | .tuple ps => if SeqAt.shaped p && SeqAt.shaped q then (ps.findIdx? fun z => PyData.eqv z q).map fun (j : Nat) => (none, .int j) else none
      | _ => none
    | _, _ => none
  | _, _ => none
theorem findIdx_facts {ps : List PyData} {q : PyData} {j : Nat} (h : ps.findIdx? (fun z => PyData.eqv z q) = some j) : ∃ z, ps[j]? = some z ∧ PyData.eqv z q = true ∧ ∀ (m : Nat) (z' : PyData), m < j → ps[m]? = some z' → PyData.eqv z' q = false := by
  rw [List.findIdx?_eq_some_iff_getElem] at h
  obtain ⟨hj, a, b⟩ := h
  refine ⟨ps[j], List.getElem?_eq_getElem hj, a, fun m z' hm hz => ?_⟩
  have := b m hm
  obtain ⟨hl, e⟩ := List.getElem?_eq_some_iff.mp hz
  rw [e] at this
  simpa using this
theorem pr_indexL : PrM K (rIndexD K) fun d ys => match d with | .lst _ _ => pIndex d ys | _ => none := by
  intro Z H d x O ds xs out Q r on dv zt h k
  cases d with
  | lst o es =>
    dsimp only at h
    unfold pIndex at h
    split at h
    · rename_i y
      obtain ⟨v, P, rfl, ry⟩ := dvs1 dv
      cases h1 : (D.lst o es).py with
      | none => rw [h1] at h; simp at h
      | some p =>
        cases h2 : y.py with
        | none => rw [h1, h2] at h; simp at h
        | some q =>
          rw [h1, h2] at h
          dsimp only at h
          have dp := r.dp h1
          cases p with
          | list ps =>
            dsimp only at h
            split at h
            · rename_i c
              simp only [Bool.and_eq_true] at c
              cases hf : ps.findIdx? (fun z => PyData.eqv z q) with
              | none => rw [hf] at h; cases h
              | some j =>
                rw [hf] at h; cases h
                obtain ⟨z, z1, z2, z3⟩ := findIdx_facts hf
                have ⟨a, vs, hx⟩ : ∃ a, ∃ vs : List V, x = .ref a := by
                  cases o with
                  | false => obtain ⟨a, vs, e, _⟩ := r; exact ⟨a, vs, e⟩
                  | true => obtain ⟨a, vs, O', e, _⟩ := r; exact ⟨a, vs, e⟩
                subst hx
                exact ⟨a, v, q, ps, j, z, rfl, rfl, dp, ry.dp h2, c.1, c.2, z1, z2, z3, k _ Z H [] ⟨rfl, rfl⟩ (Fresh.refl zt)⟩
            · cases h
          | tuple ps => simp only [D.py] at h1; cases q3 : D.pyL es <;> rw [q3] at h1 <;> cases h1
          | _ => cases h
    · cases h
  | _ => cases h
theorem pr_indexT : PrM K (rIndexT K) fun d ys => match d with | .tup _ => pIndex d ys | _ => none := by
  intro Z H d x O ds xs out Q r on dv zt h k
  cases d with
  | tup es =>
    dsimp only at h
    unfold pIndex at h
    split at h
    · rename_i y
      obtain ⟨v, P, rfl, ry⟩ := dvs1 dv
      cases h1 : (D.tup es).py with
      | none => rw [h1] at h; simp at h
      | some p =>
        cases h2 : y.py with
        | none => rw [h1, h2] at h; simp at h
        | some q =>
          rw [h1, h2] at h
          dsimp only at h
          have dp := r.dp h1
          cases p with
          | tuple ps =>
            dsimp only at h
            split at h
            · rename_i c
              simp only [Bool.and_eq_true] at c
              cases hf : ps.findIdx? (fun z => PyData.eqv z q) with
              | none => rw [hf] at h; cases h
              | some j =>
                rw [hf] at h; cases h
                obtain ⟨z, z1, z2, z3⟩ := findIdx_facts hf
                obtain ⟨a, vs, rfl, _⟩ := r
                exact ⟨a, v, q, ps, j, z, rfl, rfl, dp, ry.dp h2, c.1, c.2, z1, z2, z3, k _ Z H [] ⟨rfl, rfl⟩ (Fresh.refl zt)⟩
            · cases h
          | list ps => simp only [D.py] at h1; cases q3 : D.pyL es <;> rw [q3] at h1 <;> cases h1
          | _ => cases h
    · cases h
  | _ => cases h
end
end Yv

set_option Elab.async false
set_option linter.all false
set_option maxRecDepth 100000
set_option maxHeartbeats 4000000
/-! I19: dicts: stores, update, dict(pairs), {} -/
namespace Yv
open PySem L2 PySem.Spec PyProof.Rows
/-! ### entries -/
def putY {β : Type} (kvs : List (Ky × β)) (k : Ky) (v : β) : List (Ky × β) :=
  if (kvs.any fun p => decide (p.1 = k)) = true then kvs.map (fun p => if p.1 = k then (p.1, v) else p) else kvs ++ [(k, v)]
def mergeY {β : Type} (kvs more : List (Ky × β)) : List (Ky × β) := more.foldl (fun acc p => putY acc p.1 p.2) kvs
abbrev inlV (ks : List (Key × V)) : List (Ky × V) := ks.map fun p => (.inl p.1, p.2)
abbrev inrV (ks : List (List Key × V)) : List (Ky × V) := ks.map fun p => (.inr p.1, p.2)
theorem putK_inl (ks : List (Key × V)) (k : Key) (v : V) : inlV (putK ks k v) = putY (inlV ks) (.inl k) v := by
  unfold putK putY inlV
  have e : ((ks.map fun p => ((.inl p.1 : Ky), p.2)).any fun p => decide (p.1 = Sum.inl k)) = ks.any fun p => decide (p.1 = k) := by
    induction ks with
    | nil => rfl
    | cons p ks ih =>
      rw [List.map_cons, List.any_cons, List.any_cons, ih]
      simp
  rw [e]
  split
  · rw [List.map_map, List.map_map]
    refine List.map_congr_left fun p _ => ?_
    by_cases h : p.1 = k
    · simp [h]
    · simp [h]
  · simp
theorem putK_inr (ks : List (List Key × V)) (k : List Key) (v : V) : inrV (putK ks k v) = putY (inrV ks) (.inr k) v := by
  unfold putK putY inrV
  have e : ((ks.map fun p => ((.inr p.1 : Ky), p.2)).any fun p => decide (p.1 = Sum.inr k)) = ks.any fun p => decide (p.1 = k) := by
    induction ks with
    | nil => rfl
    | cons p ks ih =>
      rw [List.map_cons, List.any_cons, List.any_cons, ih]
      simp
  rw [e]
  split
  · rw [List.map_map, List.map_map]
    refine List.map_congr_left fun p _ => ?_
    by_cases h : p.1 = k
    · simp [h]
    · simp [h]
  · simp
theorem mergeK_inl : ∀ (more ks : List (Key × V)), inlV (mergeK ks more) = mergeY (inlV ks) (inlV more)
  | [], ks => rfl
  | p :: more, ks => by
    show inlV (mergeK (putK ks p.1 p.2) more) = mergeY (putY (inlV ks) (.inl p.1) p.2) (inlV more)
    rw [mergeK_inl more, putK_inl]
section
variable {K : PySem.W.Frag} {Z : Zp} {H : Hp}
theorem RepK.pureO : ∀ {kvs : List (Ky × D)} {vs : List (Ky × V)} {O : List Addr}, D.pureK kvs = true → RepK K Z H kvs vs O → RepK K Z H kvs vs [] := fun p r => by rw [← RepK.pure p r]; exact r
theorem RepK.cons' {k : Ky} {d : D} {v : V} {kvs : List (Ky × D)} {vs : List (Ky × V)} (r : Rep K Z H d v []) (q : RepK K Z H kvs vs []) : RepK K Z H ((k, d) :: kvs) ((k, v) :: vs) [] := ⟨v, vs, [], [], rfl, rfl, r, q⟩
theorem RepK.any {k : Ky} : ∀ {kvs : List (Ky × D)} {vs : List (Ky × V)} {O : List Addr}, RepK K Z H kvs vs O → (kvs.any fun p => decide (p.1 = k)) = vs.any fun p => decide (p.1 = k)
  | [], _, _, r => by rw [r.1]; rfl
  | (k', d) :: kvs, _, _, ⟨v, ws, O1, O2, e1, e2, r1, r2⟩ => by rw [e1, List.any_cons, List.any_cons, RepK.any r2]
theorem RepK.repl {k : Ky} {d : D} {v : V} (r : Rep K Z H d v []) : ∀ {kvs : List (Ky × D)} {vs : List (Ky × V)}, D.pureK kvs = true → RepK K Z H kvs vs [] → RepK K Z H (kvs.map fun p => if p.1 = k then (p.1, d) else p) (vs.map fun p => if p.1 = k then (p.1, v) else p) []
  | [], _, _, q => by rw [q.1]; exact ⟨rfl, rfl⟩
  | (k', d') :: kvs, _, p, ⟨v', ws, O1, O2, e1, e2, r1, r2⟩ => by
    simp only [D.pureK, Bool.and_eq_true] at p
    rw [e1]
    have r1' := r1.pureO p.1
    have r2' := RepK.repl (k := k) r p.2 (r2.pureO p.2)
    by_cases h : k' = k
    · subst h
      simp only [List.map_cons, if_pos]
      exact RepK.cons' r r2'
    · simp only [List.map_cons, if_neg h]
      exact RepK.cons' r1' r2'
theorem RepK.snoc {k : Ky} {d : D} {v : V} (r : Rep K Z H d v []) : ∀ {kvs : List (Ky × D)} {vs : List (Ky × V)}, D.pureK kvs = true → RepK K Z H kvs vs [] → RepK K Z H (kvs ++ [(k, d)]) (vs ++ [(k, v)]) []
  | [], _, _, q => by rw [q.1]; exact RepK.cons' r ⟨rfl, rfl⟩
  | (k', d') :: kvs, _, p, ⟨v', ws, O1, O2, e1, e2, r1, r2⟩ => by
    simp only [D.pureK, Bool.and_eq_true] at p
    rw [e1]
    exact RepK.cons' (r1.pureO p.1) (RepK.snoc r p.2 (r2.pureO p.2))
theorem RepK.put {k : Ky} {d : D} {v : V} {kvs : List (Ky × D)} {vs : List (Ky × V)} (r : Rep K Z H d v []) (p : D.pureK kvs = true) (q : RepK K Z H kvs vs []) : RepK K Z H (putY kvs k d) (putY vs k v) [] := by
  unfold putY
  rw [q.any]
  split
  · exact q.repl r p
  · exact q.snoc r p
theorem pureK_put {kvs : List (Ky × D)} {k : Ky} {d : D} (p : D.pureK kvs = true) (pd : d.pure = true) : D.pureK (putY kvs k d) = true := by
  rw [pureK_iff] at p ⊢
  unfold putY
  split
  · intro x m
    obtain ⟨y, my, rfl⟩ := List.mem_map.mp m
    split
    · exact pd
    · exact p y my
  · intro x m
    rcases List.mem_append.mp m with m | m
    · exact p x m
    · rw [List.mem_singleton.mp m]; exact pd
theorem RepK.merge : ∀ {more : List (Ky × D)} {ms : List (Ky × V)} {kvs : List (Ky × D)} {vs : List (Ky × V)}, D.pureK more = true → D.pureK kvs = true → RepK K Z H more ms [] → RepK K Z H kvs vs [] → RepK K Z H (mergeY kvs more) (mergeY vs ms) []
  | [], _, kvs, vs, _, _, q, r => by rw [q.1]; exact r
  | (k, d) :: more, _, kvs, vs, p, pk, ⟨v, ws, O1, O2, e1, e2, r1, r2⟩, r => by
    simp only [D.pureK, Bool.and_eq_true] at p
    rw [e1]
    show RepK K Z H (mergeY (putY kvs k d) more) (mergeY (putY vs k v) ws) []
    exact RepK.merge p.2 (pureK_put pk p.1) (r2.pureO p.2) (r.put (r1.pureO p.1) pk)
/-- an own dict of pure things -/
theorem own_dct {kvs : List (Ky × D)} {x : V} {O : List Addr} (r : Rep K Z H (.dct true kvs) x O) (p : D.pureK kvs = true) : ∃ a u vs, x = .ref a ∧ H a = some u ∧ DctHO vs u ∧ O = [a] ∧ RepK K Z H kvs vs [] := by
  obtain ⟨a, u, vs, O', e, t, q, eO, rk⟩ := r
  have := RepK.pure p rk
  subst this
  exact ⟨a, u, vs, e, t, q, eO, rk⟩
theorem chg_dct {a : Addr} {u : HO} {vs : List (Ky × V)} {kvs : List (Ky × D)} (hn : ¬ Z a) (dh : DctHO vs u) (r : RepK K Z H kvs vs []) : Chg H (upd H a u) [a] ∧ Rep K Z (upd H a u) (.dct true kvs) (.ref a) [a] := by
  refine ⟨⟨fun b m => upd_ne fun e => m (by rw [e]; simp), fun b m => ⟨u, by rw [List.mem_singleton.mp m, upd_same]⟩⟩, a, u, vs, [], rfl, upd_same, dh, rfl, ?_⟩
  exact r.mono ⟨fun _ z => z, fun b o z q => by rw [upd_ne (fun e => hn (by rw [← e]; exact z))]; exact q⟩ (fun _ m => by cases m)
/-- simple keys: the abstract dict is one of ints and texts -/
theorem simple_dK {kvs : List (Ky × D)} {vs : List (Ky × V)} {O : List Addr} {u : HO} (s : simpleKs kvs = true) (r : RepK K Z H kvs vs O) (dh : DctHO vs u) : ∃ ks : List (Key × V), u = .dK ks ∧ vs = inlV ks := by
  rcases dh with ⟨ks, e1, e2⟩ | ⟨ks, e1, ne, e2⟩
  · exact ⟨ks, e1, e2⟩
  · exfalso
    cases ks with
    | nil => exact ne rfl
    | cons p ks =>
      have keys := r.keys
      rw [e2] at keys
      cases kvs with
      | nil => simp at keys
      | cons q kvs =>
        simp only [List.map_cons, List.cons.injEq] at keys
        simp only [simpleKs, List.all_cons, keys.1, Bool.false_and] at s
        cases s
/-! ### d.update(e) -/
def pUpdate : PM
  | .dct true kvs, [.dct false more] => if D.pureK kvs && D.pureK more && simpleKs kvs && simpleKs more && sizeOk (kvs.length + more.length) then some (some (.dct true (mergeY kvs more)), .non) else none
  | _, _ => none
def rUpdate : V → List V → Hp → VK → Prop := fun x xs H Q => ∃ (a b : Addr) (ks ms : List (Key × V)), x = .ref a ∧ xs = [.ref b] ∧ a ≠ b ∧ H a = some (.dK ks) ∧ H b = some (.dK ms) ∧ ks.length + ms.length ≤ sizeLine ∧ Q .non (upd H a (.dK (mergeK ks ms)))
theorem mt_update {X : Cx} : MtR X "dict.update" rUpdate := by
  intro pins s σ H x xs v us Q I rx rv h
  obtain ⟨a, b, ks, ms, rfl, rfl, ne, ha, hb, hz, q⟩ := h
  cases rx
  obtain ⟨u, rfl, ru⟩ := rv.one
  cases ru
  obtain ⟨z1, nm1, vs, rel1, d1⟩ := dk_of I.hok ha
  obtain ⟨z2, nm2, ws, rel2, d2⟩ := dk_of I.hok hb
  have l1 := rel1.length
  have l2 := rel2.length
  refine call_meetsIn PySem.F.slot_dict_update d1.typeIs PySem.F.entry_dict_update (PySem.F.args_dict_update_2 _ _) (meets_dict_update (mixKind X.prog X.w) a b ne nm2) ⟨vs, ws, d1, d2, by omega, fun h' g1 g2 sb => ?_⟩
  have he : ∃ q, h'.get? a = some q := let ⟨q, _, _, hq, _⟩ := g1; ⟨q, hq⟩
  exact ⟨.non, upd H a (.dK (mergeK ks ms)), d_write (t' := s.toks) I (by rw [ha]; exact True.intro) sb he (dk_new (Nat.le_trans (length_mergeK ms ks) hz) nm1 (KV.merge rel2 rel1) g1), rfl, q⟩
theorem pr_update : PrM K rUpdate pUpdate := by
  intro Z H d x O ds xs out Q r on dv zt h k
  unfold pUpdate at h
  split at h
  · rename_i kvs more
    obtain ⟨c, rfl⟩ := if_some h
    simp only [Bool.and_eq_true] at c
    obtain ⟨⟨⟨⟨c1, c2⟩, c3⟩, c4⟩, c5⟩ := c
    obtain ⟨a, u, vs, rfl, ha, dh, rfl, rk⟩ := own_dct r c1
    obtain ⟨y, P, rfl, b, u2, ws, rfl, zb, hb, dh2, rk2⟩ := dvs1 dv
    obtain ⟨ks, rfl, rfl⟩ := simple_dK c3 rk dh
    obtain ⟨ms, rfl, rfl⟩ := simple_dK c4 rk2 dh2
    have hn : ¬ Z a := on a (by simp)
    have l1 := congrArg List.length rk.keys
    have l2 := congrArg List.length rk2.keys
    simp only [List.length_map] at l1 l2
    refine ⟨a, b, ks, ms, rfl, rfl, fun e => hn (by rw [e]; exact zb), ha, hb, by rw [← l1, ← l2]; exact sizeOk_le c5, ?_⟩
    have rm := RepK.merge c2 c1 (rk2.pureO c2) rk
    rw [← mergeK_inl] at rm
    obtain ⟨g1, g2⟩ := chg_dct (u := .dK (mergeK ks ms)) hn (.inl ⟨_, rfl, rfl⟩) rm
    exact k .non _ g1 g2 ⟨rfl, rfl⟩
  · cases h
/-! ### dict([(k, v), ..]) -/
def pairsD : List D → Option (List (Ky × D))
  | [] => some []
  | .tup [k, v] :: ds => match keyOf k, pairsD ds with
    | some (.inl k), some r => some ((.inl k, v) :: r)
    | _, _ => none
  | _ :: _ => none
theorem pairsD_rep : ∀ {ds : List D} {r : List (Ky × D)} {vs : List V}, D.pureL ds = true → RepL K Z H ds vs [] → pairsD ds = some r → ∃ (ps : List Addr) (kvs : List (Key × V)), vs = ps.map V.ref ∧ PySem.Paired (fun p kv => SqT K H p [kV kv.1, kv.2]) ps kvs ∧ RepK K Z H r (inlV kvs) [] ∧ D.pureK r = true
  | [], r, vs, _, q, h => by cases h; rw [q.1]; exact ⟨[], [], rfl, .nil, ⟨rfl, rfl⟩, rfl⟩
  | d :: ds, r, vs, p, ⟨v, ws, O1, O2, e1, e2, r1, r2⟩, h => by
    simp only [D.pureL, Bool.and_eq_true] at p
    unfold pairsD at h
    split at h
    · rename_i he; cases he
    · rename_i k y es he
      cases he
      split at h
      · rename_i k' r' hk hr
        cases h
        obtain ⟨ps, kvs, g1, g2, g3, g4⟩ := pairsD_rep p.2 (r2.pureO p.2) hr
        obtain ⟨a, us, rfl, ta, rl⟩ := r1
        obtain ⟨u1, us1, P1, P2, f1, f2, ra, rb⟩ := rl
        obtain ⟨u2, us2, P3, P4, f3, f4, rc, rd⟩ := rb
        rw [show us2 = [] from rd.1] at f3
        have py : k.pure = true ∧ y.pure = true := by simpa [D.pure, D.pureL] using p.1
        have ek : u1 = kV k' := by
          cases k with
          | int i => cases hk; exact ra.1
          | str i => cases hk; exact ra.1
          | ptu ds => simp only [keyOf] at hk; cases q : keys0 ds <;> rw [q] at hk <;> cases hk
          | _ => cases hk
        refine ⟨a :: ps, (k', u2) :: kvs, by rw [e1, g1]; rfl, .cons ?_ g2, RepK.cons' (rc.pureO py.2) g3, by simp [D.pureK, py.2, g4]⟩
        have := ta.sq
        rw [f1, f3, ek] at this
        exact this
      · cases h
    · cases h
def pDictOf : List D → Option D
  | [d] => match itL d with
    | some es => (pairsD es).map fun r => .dct true (mergeY [] r)
    | none => none
  | _ => none
def rDictOf (K : PySem.W.Frag) : List V → Hp → VK → Prop := fun xs H Q => ∃ (a : Addr) (ps : List Addr) (kvs : List (Key × V)), xs = [.ref a] ∧ SqL K H a (ps.map V.ref) ∧ PySem.Paired (fun p kv => SqT K H p [kV kv.1, kv.2]) ps kvs ∧ ∀ p, H p = none → Q (.ref p) (upd H p (.dK (mergeK [] kvs)))
theorem pr_dictOf : PrL K (rDictOf K) pDictOf := by
  intro Z H ds xs res Q dv zt h k
  unfold pDictOf at h
  split at h
  · rename_i d
    obtain ⟨x, O, rfl, r⟩ := dvs1 dv
    cases q : itL d with
    | none => rw [q] at h; cases h
    | some es =>
      rw [q] at h
      obtain ⟨a, vs, rfl, sq, rl, pl⟩ := itL_rep r q
      cases q2 : pairsD es with
      | none => simp [q2] at h
      | some r' =>
        simp only [q2, Option.map_some, Option.some.injEq] at h
        subst h
        obtain ⟨ps, kvs, rfl, g2, g3, g4⟩ := pairsD_rep pl rl q2
        refine ⟨a, ps, kvs, rfl, sq, g2, fun p hp => ?_⟩
        have f := Fresh.own (o := HO.dK (mergeK [] kvs)) zt hp
        have rm := RepK.merge (kvs := []) (vs := []) g4 rfl g3 ⟨rfl, rfl⟩
        refine k (.ref p) _ _ [p] ⟨p, _, inlV (mergeK [] kvs), [], rfl, upd_same, .inl ⟨_, rfl, rfl⟩, rfl, ?_⟩ f
        rw [mergeK_inl]
        exact rm.mono f.zx (fun _ m => by cases m)
  · cases h
/-! ### x[i] = e -/
def pSet : D → D → D → Option D
  | .lst true ds, .int i, y => if D.pureL ds && y.pure then (ixN ds.length i).map fun j => .lst true (ds.set j y) else none
  | .dct true kvs, k, y => match keyOf k with
    | some ky => if D.pureK kvs && y.pure && kindOk kvs ky && sizeOk kvs.length then some (.dct true (putY kvs ky y)) else none
    | none => none
  | _, _, _ => none
def rSetY : TSet := fun o i v H Q => rSetL o i v H Q ∨ rSetD o i v H Q
theorem set_Y {X : Cx} (hu : X.A.units + 1 < cLine) : PSet X rSetY := by
  intro pins s σ H o i v ov iv u Q I ro ri rv h
  rcases h with h | h
  · exact set_list pins s σ H o i v ov iv u Q I ro ri rv h
  · exact set_dict hu pins s σ H o i v ov iv u Q I ro ri rv h
theorem pr_set {d i y d' : D} {x j v : V} {O P1 P2 : List Addr} {Q : Hp → Prop} (r : Rep K Z H d x O) (on : ∀ a ∈ O, ¬ Z a) (ri : Rep K Z H i j P1) (ry : Rep K Z H y v P2) (h : pSet d i y = some d') (k : ∀ H', Chg H H' O → Rep K Z H' d' x O → Q H') : rSetY x j v H Q := by
  unfold pSet at h
  split at h
  · rename_i ds i
    split at h
    · rename_i c
      simp only [Bool.and_eq_true] at c
      cases hi : ixN ds.length i with
      | none => rw [hi] at h; cases h
      | some m =>
        rw [hi] at h; cases h
        obtain ⟨a, vs, rfl, ha, rfl, rl⟩ := own_lst r c.1
        have hn : ¬ Z a := on a (by simp)
        have rs := rl.set c.1 m (ry.pureO c.2)
        have chg : Chg H (upd H a (.lst (vs.set m v))) [a] := ⟨fun b mb => upd_ne fun e => mb (by rw [e]; simp), fun b mb => ⟨.lst (vs.set m v), by rw [List.mem_singleton.mp mb, upd_same]⟩⟩
        refine .inl ⟨a, vs, i, m, rfl, ri.1, ha, by rw [← rl.length]; exact hi, k _ chg ⟨a, vs.set m v, [], rfl, upd_same, rfl, ?_⟩⟩
        exact rs.mono ⟨fun _ z => z, fun b o z q => by rw [upd_ne (fun e => hn (by rw [← e]; exact z))]; exact q⟩ (fun _ m => by cases m)
    · cases h
  · rename_i kvs
    cases hk : keyOf i with
    | none => rw [hk] at h; cases h
    | some ky =>
      rw [hk] at h
      dsimp only at h
      obtain ⟨c, rfl⟩ := if_some h
      simp only [Bool.and_eq_true] at c
      obtain ⟨⟨⟨c1, c2⟩, c3⟩, c4⟩ := c
      obtain ⟨a, u, vs, rfl, ha, dh, rfl, rk⟩ := own_dct r c1
      have hn : ¬ Z a := on a (by simp)
      have rp := rk.put (k := ky) (ry.pureO c2) c1
      have hkl : kvs.length = vs.length := by have := congrArg List.length rk.keys; simpa using this
      cases ky with
      | inl ky =>
        have ek : j = kV ky := by
          cases i with
          | int i => cases hk; exact ri.1
          | str i => cases hk; exact ri.1
          | ptu ds => simp only [keyOf] at hk; cases q : keys0 ds <;> rw [q] at hk <;> cases hk
          | _ => cases hk
        obtain ⟨ks, rfl, rfl⟩ := simple_dK c3 rk dh
        rw [List.length_map] at hkl
        rw [← putK_inl] at rp
        obtain ⟨g1, g2⟩ := chg_dct (u := .dK (putK ks ky v)) hn (.inl ⟨_, rfl, rfl⟩) rp
        exact .inr ⟨a, _, rfl, .inl ⟨ks, ky, ha, ek, by rw [← hkl]; exact sizeOk_lt c4, rfl⟩, k _ g1 g2⟩
      | inr ky =>
        obtain ⟨b, rfl, hb⟩ := key_tup ri hk ky rfl
        rcases dh with ⟨ks, rfl, e⟩ | ⟨ks, rfl, ne, e⟩
        · exfalso
          have keys := rk.keys
          rw [e] at keys
          cases kvs with
          | nil => simp [kindOk] at c3
          | cons q kvs =>
            cases ks with
            | nil => simp at keys
            | cons p ks =>
              simp only [List.map_cons, List.cons.injEq] at keys
              simp only [kindOk, List.all_cons, keys.1, Bool.false_and, Bool.and_false] at c3
              cases c3
        · subst e
          rw [List.length_map] at hkl
          rw [show putY (ks.map fun p => ((.inr p.1 : Ky), p.2)) (.inr ky) v = inrV (putK ks ky v) from (putK_inr ks ky v).symm] at rp
          have ne' : putK ks ky v ≠ [] := by
            unfold putK
            split
            · cases ks with
              | nil => exact absurd rfl ne
              | cons _ _ => simp
            · simp
          obtain ⟨g1, g2⟩ := chg_dct (u := .dT (putK ks ky v)) hn (.inr ⟨_, rfl, ne', rfl⟩) rp
          exact .inr ⟨a, _, rfl, .inr ⟨ks, ky, b, ha, rfl, hb, by rw [← hkl]; exact sizeOk_lt c4, rfl⟩, k _ g1 g2⟩
  · cases h
end
end Yv

set_option Elab.async false
set_option linter.all false
set_option maxRecDepth 100000
set_option maxHeartbeats 4000000
/-! I20: what is walked, {}, ranges as lists, stores -/
namespace Yv
open PySem L2 PySem.Spec PyProof.Rows
section
variable {X : Cx}
/-- a list or a tuple -/
def iSeq (K : PySem.W.Frag) (tl : TE) : TI := fun σ H R => tl σ H fun x H1 => ∃ a, x = .ref a ∧ (((∃ xs, SqL K H1 a xs) ∧ R (Itl K a) H1) ∨ ((∃ xs, SqT K H1 a xs) ∧ R (Itt K a) H1))
theorem pi_seqY {tg l : Expr} {tl : TE} (hl : PE X l tl) : PI X tg l (iSeq X.K tl) := by
  constructor
  intro pins s σ H R I go
  refine thn (hl.run pins s σ H _ I go) fun v s1 ⟨x, H1, I1, r1, a, ex, q⟩ => ?_
  subst ex
  cases r1
  have fp : ∀ b ∈ [s1.heap.objs.size], FpOk X pins H1 b := fun b hb => by
    rw [List.mem_singleton.mp hb]
    exact I1.fpOk (Nat.le_refl _) (I1.hok.fresh (Nat.le_refl _))
  rcases q with ⟨⟨xs, hq⟩, q⟩ | ⟨⟨xs, hq⟩, q⟩
  · obtain ⟨its, rv, p, hz⟩ := I1.list hq
    refine wpAny_pyIter_list p.isList ⟨s1.heap.objs.size, [s1.heap.objs.size], _, _, H1, rfl, I1.kept (t' := s1.toks) (fun b o e => Heap.get?_push_of_some _ e), turn_list a _, ⟨_, Heap.get?_push_size _ rfl, rfl, rfl⟩, fp, q⟩
  · obtain ⟨its, rv, p, hz⟩ := I1.tuple hq
    refine wpAny_pyIter_tuple (show s1.heap.IsTuple a its.toArray from p) ⟨s1.heap.objs.size, [s1.heap.objs.size], _, _, H1, rfl, I1.kept (t' := s1.toks) (fun b o e => Heap.get?_push_of_some _ e), turn_tuple a _, ⟨_, Heap.get?_push_size _ rfl, rfl, rfl⟩, fp, q⟩
/-- enumerate of a list or a tuple -/
def iEnumY (K : PySem.W.Frag) (ta : TA) : TI := fun σ H R => ta σ H fun vs H1 => ∃ a xs, vs = [.ref a] ∧ ((SqL K H1 a xs ∧ R (Ite K a) H1) ∨ (SqT K H1 a xs ∧ R (IteT K a) H1))
theorem pi_enumY {e : Expr} {ta : TA} {p pos tpos : Pos} {elts : List Expr} {kk : Nat} (hg : Gl X "enumerate") (hm : X.mg "enumerate" = none) (ha : PA X [e] ta) (hs : starEach [e] X.env = [(false, eval e X.env)]) :
    PI X (.Tuple elts kk tpos) (.Call (.Name "enumerate" p) [e] [] pos) (iEnumY X.K ta) := by
  constructor
  intro pins s σ H R I go
  refine Call_ (ld_blt I hg hm boot_enumerate (callWith_type1 (thn (ha.run pos pins s σ H _ I go) fun us s1 ⟨vs, H1, I1, r1, a, xs, ex, q⟩ => ?_) hs rfl))
  subst ex
  cases r1 with
  | cons r rr =>
    cases rr
    cases r
    have fp : ∀ b ∈ [s1.heap.objs.size + 1, s1.heap.objs.size], FpOk X pins H1 b := fun b hb => by
      have le : s1.heap.objs.size ≤ b := by
        rcases (by simpa using hb : b = s1.heap.objs.size + 1 ∨ b = s1.heap.objs.size) with rfl | rfl
        · exact Nat.le_succ _
        · exact Nat.le_refl _
      exact I1.fpOk le (I1.hok.fresh le)
    rcases q with ⟨hq, q⟩ | ⟨hq, q⟩
    · obtain ⟨its, rv, p', hz⟩ := I1.list hq
      refine call_enumerate_list p'.isList fun h' he hit hsz hk => wpAny_pyIter_enum he ?_
      exact ⟨s1.heap.objs.size + 1, [s1.heap.objs.size + 1, s1.heap.objs.size], _, _, H1, rfl, I1.kept (t' := s1.toks) hk, turn_enum a (s1.heap.objs.size + 1) s1.heap.objs.size, ⟨⟨.none, he⟩, hit, Nat.succ_ne_self _⟩, fp, q⟩
    · obtain ⟨its, rv, p', hz⟩ := I1.tuple hq
      refine enum_tup p' fun h' he hit hk => wpAny_pyIter_enum he ?_
      exact ⟨s1.heap.objs.size + 1, [s1.heap.objs.size + 1, s1.heap.objs.size], _, _, H1, rfl, I1.kept (t' := s1.toks) hk, turn_enumT a (s1.heap.objs.size + 1) s1.heap.objs.size, ⟨⟨.none, he⟩, hit, Nat.succ_ne_self _⟩, fp, q⟩
end
section
variable {K : PySem.W.Frag} {Z : Zp} {H : Hp}
/-- the items of what is frozen -/
def itF : D → Option (List D)
  | .lst false ds => if D.pureL ds then some ds else none
  | .scr ns => some (ns.map .int)
  | .tup ds => if D.pureL ds then some ds else none
  | _ => none
theorem itF_rep {d : D} {ds : List D} {v : V} {O : List Addr} (r : Rep K Z H d v O) (h : itF d = some ds) : D.pureL ds = true ∧ ∃ a vs, v = .ref a ∧ RepL K Z H ds vs [] ∧ (((Z a ∧ H a = some (.lst vs)) ∨ LstAt K Z H a vs) ∨ TupAt K Z H a vs) := by
  cases d with
  | lst o xs =>
    cases o with
    | true => cases h
    | false =>
      obtain ⟨c, rfl⟩ := if_some h
      obtain ⟨a, vs, e, t, rl⟩ := r
      exact ⟨c, a, vs, e, rl.pureO c, .inl (.inl t)⟩
  | scr ns =>
    cases h
    obtain ⟨⟨a, e, t⟩, _⟩ := r
    exact ⟨pureL_ints ns, a, _, e, RepL.of_ints ns, .inl (.inr t)⟩
  | tup xs =>
    obtain ⟨c, rfl⟩ := if_some h
    obtain ⟨a, vs, e, t, rl⟩ := r
    exact ⟨c, a, vs, e, rl.pureO c, .inr t⟩
  | _ => cases h
theorem lstSq {a : Addr} {vs : List V} (h : (Z a ∧ H a = some (.lst vs)) ∨ LstAt K Z H a vs) : LstAt K Z H a vs := h.elim (fun z => .inl ⟨z.1, .inl z.2⟩) id
theorem itOk_enum {ds : List D} {a : Addr} {vs : List V} (p : D.pureL ds = true) (r : RepL K Z H ds vs []) (t : LstAt K Z H a vs) : ItOk K (Ite K a) (((intsD 0 ds.length).zip ds).map fun p => D.ptu [p.1, p.2]) Z H := by
  refine itOk_pair (xs := fun i => some (.int (i : Nat))) (ys := fun i => vs[i]?) p (pureL_intsD _ _) (fun Z2 H2 x i hi => ?_) (fun Z2 H2 x => ?_) (fun Z2 H2 x i v H3 hi y => ?_) (fun i d e v q => ?_) (fun i d e v q => r.item p e q)
  · rw [intsD_length] at hi
    have hv : i < vs.length := by rw [← r.length]; omega
    exact ⟨vs, vs[i], (t.mono x).sq, by simp [hv]⟩
  · rw [intsD_length]
    exact ⟨vs, (t.mono x).sq, by rw [← r.length]; omega⟩
  · obtain ⟨T, y1, e1, e2, e3, e4⟩ := y
    exact ⟨T, _, y1, e1, e2, e3, rfl, e4 vs (t.mono x).sq⟩
  · rw [intsD_get e]
    cases q
    exact ⟨by simp, rfl⟩
theorem itOk_enumT {ds : List D} {a : Addr} {vs : List V} (p : D.pureL ds = true) (r : RepL K Z H ds vs []) (t : TupAt K Z H a vs) : ItOk K (IteT K a) (((intsD 0 ds.length).zip ds).map fun p => D.ptu [p.1, p.2]) Z H := by
  refine itOk_pair (xs := fun i => some (.int (i : Nat))) (ys := fun i => vs[i]?) p (pureL_intsD _ _) (fun Z2 H2 x i hi => ?_) (fun Z2 H2 x => ?_) (fun Z2 H2 x i v H3 hi y => ?_) (fun i d e v q => ?_) (fun i d e v q => r.item p e q)
  · rw [intsD_length] at hi
    have hv : i < vs.length := by rw [← r.length]; omega
    exact ⟨vs, vs[i], (t.mono x).sq, by simp [hv]⟩
  · rw [intsD_length]
    exact ⟨vs, (t.mono x).sq, by rw [← r.length]; omega⟩
  · obtain ⟨T, y1, e1, e2, e3, e4⟩ := y
    exact ⟨T, _, y1, e1, e2, e3, rfl, e4 vs (t.mono x).sq⟩
  · rw [intsD_get e]
    cases q
    exact ⟨by simp, rfl⟩
theorem itOk_zipL {ds es : List D} {a b : Addr} {vs ws : List V} (p : D.pureL ds = true) (r : RepL K Z H ds vs []) (t : LstAt K Z H a vs) (p2 : D.pureL es = true) (r2 : RepL K Z H es ws []) (t2 : LstAt K Z H b ws) :
    ItOk K (Itz K a b) ((ds.zip es).map fun p => D.ptu [p.1, p.2]) Z H := by
  refine itOk_pair (xs := fun i => vs[i]?) (ys := fun i => ws[i]?) p2 p (fun Z2 H2 x i hi => ?_) (fun Z2 H2 x => ?_) (fun Z2 H2 x i v H3 hi y => ?_) (fun i d e v q => r.item p e q) (fun i d e v q => r2.item p2 e q)
  · have hv : i < vs.length := by rw [← r.length]; omega
    have hw : i < ws.length := by rw [← r2.length]; omega
    exact ⟨vs, ws, vs[i], ws[i], (t.mono x).sq, (t2.mono x).sq, by simp [hv], by simp [hw]⟩
  · exact ⟨vs, ws, (t.mono x).sq, (t2.mono x).sq, by rw [← r.length, ← r2.length]; omega⟩
  · obtain ⟨T, x1, y1, e1, e2, e3, e4, e5⟩ := y
    exact ⟨T, x1, y1, e1, e2, e3, e4 vs (t.mono x).sq, e5 ws (t2.mono x).sq⟩
theorem itOk_zipT {ds es : List D} {a b : Addr} {vs ws : List V} (p : D.pureL ds = true) (r : RepL K Z H ds vs []) (t : TupAt K Z H a vs) (p2 : D.pureL es = true) (r2 : RepL K Z H es ws []) (t2 : TupAt K Z H b ws) :
    ItOk K (RZ.ItzT K a b) ((ds.zip es).map fun p => D.ptu [p.1, p.2]) Z H := by
  refine itOk_pair (xs := fun i => vs[i]?) (ys := fun i => ws[i]?) p2 p (fun Z2 H2 x i hi => ?_) (fun Z2 H2 x => ?_) (fun Z2 H2 x i v H3 hi y => ?_) (fun i d e v q => r.item p e q) (fun i d e v q => r2.item p2 e q)
  · have hv : i < vs.length := by rw [← r.length]; omega
    have hw : i < ws.length := by rw [← r2.length]; omega
    exact ⟨vs, ws, vs[i], ws[i], (t.mono x).sq, (t2.mono x).sq, by simp [hv], by simp [hw]⟩
  · exact ⟨vs, ws, (t.mono x).sq, (t2.mono x).sq, by rw [← r.length, ← r2.length]; omega⟩
  · obtain ⟨T, x1, y1, e1, e2, e3, e4, e5⟩ := y
    exact ⟨T, x1, y1, e1, e2, e3, e4 vs (t.mono x).sq, e5 ws (t2.mono x).sq⟩
end
/-! ### meanings -/
/-- for x in e -/
def mItV (m : Mn A) : Mn (List D) := fun δ => (mFz m δ).bind fun a δ1 => match a with
  | .dt d => match itF d with
    | some ds => .ok ds δ1
    | none => .fail
  | .nm _ => .fail
def small (i : Int) : Bool := in62 i
theorem small_iff {i : Int} (h : small i = true) : -(2 ^ 62) ≤ i ∧ i < 2 ^ 62 := in62_iff h
/-- for x in range(..) -/
def rg1 : List D → Option Int
  | [.int j] => if small j then some j else none
  | _ => none
def rg2 : List D → Option (Int × Int)
  | [.int i, .int j] => if small i && small j then some (i, j) else none
  | _ => none
theorem rg1_some {ds : List D} {j : Int} (h : rg1 ds = some j) : ds = [.int j] ∧ -(2 ^ 62) ≤ j ∧ j < 2 ^ 62 := by
  unfold rg1 at h
  split at h
  · obtain ⟨c, rfl⟩ := if_some h
    exact ⟨rfl, small_iff c⟩
  · cases h
theorem rg2_some {ds : List D} {p : Int × Int} (h : rg2 ds = some p) : ds = [.int p.1, .int p.2] ∧ (-(2 ^ 62) ≤ p.1 ∧ p.1 < 2 ^ 62) ∧ -(2 ^ 62) ≤ p.2 ∧ p.2 < 2 ^ 62 := by
  unfold rg2 at h
  split at h
  · obtain ⟨c, rfl⟩ := if_some h
    simp only [Bool.and_eq_true] at c
    exact ⟨rfl, small_iff c.1, small_iff c.2⟩
  · cases h
def mItR1 (ms : Mn (List A)) : Mn (List D) := fun δ => (ms δ).bind fun as δ1 => match (resAs δ1 as).bind rg1 with
  | some j => .ok (intsD 0 j.toNat) δ1
  | none => .fail
def mItR2 (ms : Mn (List A)) : Mn (List D) := fun δ => (ms δ).bind fun as δ1 => match (resAs δ1 as).bind rg2 with
  | some p => .ok (intsD p.1 (p.2 - p.1).toNat) δ1
  | none => .fail
def pairsOfD (ds es : List D) : List D := (ds.zip es).map fun p => D.ptu [p.1, p.2]
/-- for i, x in enumerate(e) -/
def mItE (m : Mn A) : Mn (List D) := fun δ => (mItV m δ).bind fun ds δ1 => .ok (pairsOfD (intsD 0 ds.length) ds) δ1
/-- both lists, both tuples -/
def isTupD : D → Bool
  | .tup _ => true
  | _ => false
def mItZ (ma mb : Mn A) : Mn (List D) := fun δ => (mFz ma δ).bind fun a δ1 => (mFz mb δ1).bind fun b δ2 => match a, b with
  | .dt d, .dt e => match itF d, itF e with
    | some ds, some es => if isTupD d == isTupD e then .ok (pairsOfD ds es) δ2 else .fail
    | _, _ => .fail
  | _, _ => .fail
section
variable {w : Wc} {σ : L2.St} {H : Hp}
theorem tItV {m : Mn A} {RR : It → Hp → Prop} (h : tI w (mItV m) σ H RR) : iSeq w.K (tA w m) σ H RR := by
  refine tA_fz ?_
  obtain ⟨Z, δ, F, e, h⟩ := h
  refine ⟨Z, δ, F, e, ?_⟩
  unfold mItV at h
  cases q : mFz m δ with
  | fail => rw [q] at h; exact h
  | exc x δ1 => rw [q] at h; exact h
  | ok a δ1 =>
    rw [q] at h
    simp only [R.bind_ok] at h
    intro v Z1 H1 F1 O e1 r1 t1 p1
    cases a with
    | nm i => exact h.elim
    | dt d =>
      dsimp only at h
      cases hd : itF d with
      | none => rw [hd] at h; exact h.elim
      | some ds =>
        rw [hd] at h
        obtain ⟨p, a, vs, rfl, rl, t⟩ := itF_rep r1 hd
        have pp : Post Z H (Pf F) Z1 H1 (Pf F1) := p1.drop fun a z => .inl z
        refine ⟨a, rfl, ?_⟩
        rcases t with t | t
        · exact .inl ⟨⟨vs, (lstSq t).sq⟩, h _ Z1 H1 F1 e1 pp (itOk_list p t rl)⟩
        · exact .inr ⟨⟨vs, t.sq⟩, h _ Z1 H1 F1 e1 pp (itOk_tup p t rl)⟩
theorem tItR1 {ms : Mn (List A)} {RR : It → Hp → Prop} (h : tI w (mItR1 ms) σ H RR) : iRng1 (tAs w ms) σ H RR := by
  obtain ⟨Z, δ, F, e, h⟩ := h
  refine ⟨Z, δ, F, e, ?_⟩
  unfold mItR1 at h
  cases q : ms δ with
  | fail => rw [q] at h; exact h
  | exc x δ1 => rw [q] at h; exact h
  | ok as δ1 =>
    rw [q] at h
    simp only [R.bind_ok] at h
    intro vs Z1 H1 F1 Os e1 r1 t1 p1
    cases ra : resAs δ1 as with
    | none => simp only [ra, Option.bind_none] at h
    | some ds =>
      cases hr : rg1 ds with
      | none => simp only [ra, Option.bind_some, hr] at h
      | some j =>
        simp only [ra, Option.bind_some, hr] at h
        have dv := e1.opnds r1 ra
        have pp : Post Z H (Pf F) Z1 H1 (Pf F1) := p1.drop fun a z => .inl z
        obtain ⟨rfl, b1, b2⟩ := rg1_some hr
        obtain ⟨v, O, rfl, rv⟩ := dvs1 dv
        rw [rv.1]
        exact ⟨j, rfl, b1, b2, h _ Z1 H1 F1 e1 pp itOk_range⟩
theorem tItR2 {ms : Mn (List A)} {RR : It → Hp → Prop} (h : tI w (mItR2 ms) σ H RR) : iRng2 (tAs w ms) σ H RR := by
  obtain ⟨Z, δ, F, e, h⟩ := h
  refine ⟨Z, δ, F, e, ?_⟩
  unfold mItR2 at h
  cases q : ms δ with
  | fail => rw [q] at h; exact h
  | exc x δ1 => rw [q] at h; exact h
  | ok as δ1 =>
    rw [q] at h
    simp only [R.bind_ok] at h
    intro vs Z1 H1 F1 Os e1 r1 t1 p1
    cases ra : resAs δ1 as with
    | none => simp only [ra, Option.bind_none] at h
    | some ds =>
      cases hr : rg2 ds with
      | none => simp only [ra, Option.bind_some, hr] at h
      | some j =>
        simp only [ra, Option.bind_some, hr] at h
        have dv := e1.opnds r1 ra
        have pp : Post Z H (Pf F) Z1 H1 (Pf F1) := p1.drop fun a z => .inl z
        obtain ⟨rfl, ⟨b1, b2⟩, b3, b4⟩ := rg2_some hr
        obtain ⟨v, v2, O, P, rfl, rv, rv2⟩ := dvs2 dv
        rw [rv.1, rv2.1]
        exact ⟨j.1, j.2, rfl, ⟨b1, b2, b3, b4⟩, h _ Z1 H1 F1 e1 pp itOk_range⟩
theorem tItE {m : Mn A} {RR : It → Hp → Prop} {t : TE} (k : ∀ Q, tA w m σ H Q → t σ H Q) (h : tI w (mItE m) σ H RR) : iEnumY w.K (tCons t tNil) σ H RR := by
  refine k _ (tA_fz ?_)
  obtain ⟨Z, δ, F, e, h⟩ := h
  refine ⟨Z, δ, F, e, ?_⟩
  unfold mItE mItV at h
  cases q : mFz m δ with
  | fail => rw [q] at h; exact h
  | exc x δ1 => rw [q] at h; exact h
  | ok a δ1 =>
    rw [q] at h
    simp only [R.bind_ok] at h
    intro v Z1 H1 F1 O e1 r1 t1 p1
    cases a with
    | nm i => exact h.elim
    | dt d =>
      dsimp only at h
      cases hd : itF d with
      | none => rw [hd] at h; exact h.elim
      | some ds =>
        rw [hd] at h
        simp only [R.bind_ok] at h
        obtain ⟨p, a, vs, rfl, rl, t⟩ := itF_rep r1 hd
        have pp : Post Z H (Pf F) Z1 H1 (Pf F1) := p1.drop fun a z => .inl z
        refine ⟨a, vs, rfl, ?_⟩
        rcases t with t | t
        · exact .inl ⟨(lstSq t).sq, h _ Z1 H1 F1 e1 pp (itOk_enum p rl (lstSq t))⟩
        · exact .inr ⟨t.sq, h _ Z1 H1 F1 e1 pp (itOk_enumT p rl t)⟩
end
end Yv

set_option Elab.async false
set_option linter.all false
set_option maxRecDepth 100000
set_option maxHeartbeats 4000000
/-! I21: zip, {}, tuple(range(..)), stores, returns -/
namespace Yv
open PySem L2 PySem.Spec PyProof.Rows
theorem itF_repB {K : PySem.W.Frag} {Z : Zp} {H : Hp} {d : D} {ds : List D} {v : V} {O : List Addr} (r : Rep K Z H d v O) (h : itF d = some ds) :
    D.pureL ds = true ∧ ∃ a vs, v = .ref a ∧ RepL K Z H ds vs [] ∧ ((isTupD d = false ∧ LstAt K Z H a vs) ∨ (isTupD d = true ∧ TupAt K Z H a vs)) := by
  cases d with
  | lst o xs =>
    cases o with
    | true => cases h
    | false =>
      obtain ⟨c, rfl⟩ := if_some h
      obtain ⟨a, vs, e, t, rl⟩ := r
      exact ⟨c, a, vs, e, rl.pureO c, .inl ⟨rfl, lstSq (.inl t)⟩⟩
  | scr ns =>
    cases h
    obtain ⟨⟨a, e, t⟩, _⟩ := r
    exact ⟨pureL_ints ns, a, _, e, RepL.of_ints ns, .inl ⟨rfl, t⟩⟩
  | tup xs =>
    obtain ⟨c, rfl⟩ := if_some h
    obtain ⟨a, vs, e, t, rl⟩ := r
    exact ⟨c, a, vs, e, rl.pureO c, .inr ⟨rfl, t⟩⟩
  | _ => cases h
section
variable {w : Wc} {σ : L2.St} {H : Hp}
theorem tItZ {ma mb : Mn A} {RR : It → Hp → Prop} {ta tb : TE} (ka : ∀ σ H Q, tA w ma σ H Q → ta σ H Q) (kb : ∀ σ H Q, tA w mb σ H Q → tb σ H Q) (h : tI w (mItZ ma mb) σ H RR) : RZ.iZipA w.K (tCons ta (tCons tb tNil)) σ H RR := by
  refine ka _ _ _ (tA_fz ?_)
  obtain ⟨Z, δ, F, e, h⟩ := h
  refine ⟨Z, δ, F, e, ?_⟩
  unfold mItZ at h
  cases q : mFz ma δ with
  | fail => rw [q] at h; exact h
  | exc x δ1 => rw [q] at h; exact h
  | ok a δ1 =>
    rw [q] at h
    simp only [R.bind_ok] at h
    intro v Z1 H1 F1 O e1 r1 t1 p1
    refine kb _ _ _ (tA_fz ⟨Z1, δ1, F1, e1, ?_⟩)
    cases q2 : mFz mb δ1 with
    | fail => rw [q2] at h; exact h
    | exc x δ2 => rw [q2] at h; exact xOut_on h p1 fun _ z => .inl z
    | ok b δ2 =>
      rw [q2] at h
      simp only [R.bind_ok] at h
      intro v2 Z2 H2 F2 O2 e2 r2 t2 p2
      have r1' : RepA w.K Z2 H2 σ a v O := r1.mono (p2.zx e1.zP) (t1.stays p2)
      cases a with
      | nm i => exact h.elim
      | dt d =>
        cases b with
        | nm i => exact h.elim
        | dt d2 =>
          dsimp only at h
          cases hd : itF d with
          | none => simp only [hd] at h
          | some ds =>
            cases hd2 : itF d2 with
            | none => simp only [hd, hd2] at h
            | some es =>
              simp only [hd, hd2] at h
              by_cases c : (isTupD d == isTupD d2) = true
              rotate_left
              · rw [if_neg c] at h; exact h.elim
              rw [if_pos c] at h
              have pp : Post Z H (Pf F) Z2 H2 (Pf F2) := (p1.then p2).drop fun a z => .inl (.inl z)
              obtain ⟨pa, a, vs, rfl, rl, t⟩ := itF_repB r1' hd
              obtain ⟨pb, b, ws, rfl, rl2, t'⟩ := itF_repB r2 hd2
              refine ⟨a, b, vs, ws, rfl, ?_⟩
              rcases t with ⟨b1, t⟩ | ⟨b1, t⟩
              · rcases t' with ⟨b2, t'⟩ | ⟨b2, t'⟩
                · exact .inl ⟨t.sq, t'.sq, h _ Z2 H2 F2 e2 pp (itOk_zipL pa rl t pb rl2 t')⟩
                · rw [b1, b2] at c; cases c
              · rcases t' with ⟨b2, t'⟩ | ⟨b2, t'⟩
                · rw [b1, b2] at c; cases c
                · exact .inr ⟨t.sq, t'.sq, h _ Z2 H2 F2 e2 pp (itOk_zipT pa rl t pb rl2 t')⟩
/-- {} -/
theorem tDct0 {Q : VK} (h : tA w mDct0 σ H Q) : tDNewK σ H Q := by
  obtain ⟨Z, δ, F, e, h⟩ := h
  intro p hp
  have f := Fresh.own (o := HO.dK []) e.zt hp
  exact fin_made (P1 := Pf F) h e Post.refl (fun _ z => z) ⟨p, .dK [], [], [], rfl, upd_same, .inl ⟨[], rfl, rfl⟩, rfl, rfl, rfl⟩ f
end
/-! ### tuple(range(..)), list(range(..)) -/
theorem RepL.of_rg {K : PySem.W.Frag} {Z : Zp} {H : Hp} (a b : Int) : RepL K Z H (intsD a (b - a).toNat) (rgV a b) [] := by
  refine RepL.of_get (by rw [intsD_length, rgV_length]) fun i d v e1 e2 => ?_
  rw [intsD_get e1]
  unfold rgV at e2
  rw [List.getElem?_map] at e2
  have hi : i < (b - a).toNat := by have := (List.getElem?_eq_some_iff.mp e1).1; rw [intsD_length] at this; exact this
  rw [List.getElem?_range hi] at e2
  cases e2
  exact ⟨rfl, rfl⟩
def rgOk (a b : Int) : Bool := small a && small b && decide ((b - a).toNat ≤ 1000000)
theorem rgOk_ok {a b : Int} (h : rgOk a b = true) : RgOk a b := by
  simp only [rgOk, Bool.and_eq_true, decide_eq_true_eq] at h
  obtain ⟨h1, h2⟩ := small_iff h.1.1
  obtain ⟨h3, h4⟩ := small_iff h.1.2
  exact ⟨h1, h2, h3, h4, by have := h.2; omega⟩
def pRgT1 : D → Option D
  | .int n => if rgOk 0 n then some (.tup (intsD 0 n.toNat)) else none
  | _ => none
def pRgT2 : D → D → Option D
  | .int m, .int n => if rgOk m n then some (.tup (intsD m (n - m).toNat)) else none
  | _, _ => none
def pRgL1 : D → Option D
  | .int n => if rgOk 0 n then some (.lst true (intsD 0 n.toNat)) else none
  | _ => none
def pRgL2 : D → D → Option D
  | .int m, .int n => if rgOk m n then some (.lst true (intsD m (n - m).toNat)) else none
  | _, _ => none
section
variable {K : PySem.W.Frag}
theorem sub0 (n : Int) : n - 0 = n := by omega
theorem pr_rgT1 : Pr1 K (fun x H Q => ∃ n, x = .int n ∧ RgOk 0 n ∧ NewT H (rgV 0 n) Q) pRgT1 := by
  intro Z H d x res Q ⟨O, r⟩ zt h k
  unfold pRgT1 at h
  split at h
  · rename_i n
    obtain ⟨c, rfl⟩ := if_some h
    have rl := RepL.of_rg (K := K) (Z := Z) (H := H) 0 n
    rw [sub0] at rl
    exact ⟨n, r.1, rgOk_ok c, pr_tup zt k rl⟩
  · cases h
theorem pr_rgT2 : Pr2 K (fun x y H Q => ∃ i j, x = .int i ∧ y = .int j ∧ RgOk i j ∧ NewT H (rgV i j) Q) pRgT2 := by
  intro Z H d e x y res Q ⟨O, r⟩ ⟨O2, r2⟩ zt h k
  unfold pRgT2 at h
  split at h
  · rename_i m n
    obtain ⟨c, rfl⟩ := if_some h
    exact ⟨m, n, r.1, r2.1, rgOk_ok c, pr_tup zt k (RepL.of_rg m n)⟩
  · cases h
theorem pr_rgL1 : Pr1 K (fun x H Q => ∃ n, x = .int n ∧ RgOk 0 n ∧ ∀ q, H q = none → Q (.ref q) (upd H q (.lst (rgV 0 n)))) pRgL1 := by
  intro Z H d x res Q ⟨O, r⟩ zt h k
  unfold pRgL1 at h
  split at h
  · rename_i n
    obtain ⟨c, rfl⟩ := if_some h
    have rl := RepL.of_rg (K := K) (Z := Z) (H := H) 0 n
    rw [sub0] at rl
    exact ⟨n, r.1, rgOk_ok c, fun p hp => pr_lst zt k rl hp⟩
  · cases h
theorem pr_rgL2 : Pr2 K (fun x y H Q => ∃ i j, x = .int i ∧ y = .int j ∧ RgOk i j ∧ ∀ q, H q = none → Q (.ref q) (upd H q (.lst (rgV i j)))) pRgL2 := by
  intro Z H d e x y res Q ⟨O, r⟩ ⟨O2, r2⟩ zt h k
  unfold pRgL2 at h
  split at h
  · rename_i m n
    obtain ⟨c, rfl⟩ := if_some h
    exact ⟨m, n, r.1, r2.1, rgOk_ok c, fun p hp => pr_lst zt k (RepL.of_rg m n) hp⟩
  · cases h
end
/-! ### x[i] = e, x a name -/
def mSto (i : Nat) (mi me : Mn A) : Ms := fun δ => (mFz me δ).toS fun y δ1 => (mVar i δ1).toS fun _ δ2 => (mi δ2).toS fun ix δ3 => match δ3[i]?, resA δ3 ix, y with
  | some (some d), some di, .dt dy => match pSet d di dy with
    | some d' => .nx (δ3.set i (some d'))
    | none => .fail
  | _, _, _ => .fail
section
variable {w : Wc} {P : List Nat} {DD : Ends} {σ : L2.St} {H : Hp}
theorem tSto {i : Nat} {mi me : Mn A} {ti te : TE} (ke : ∀ σ H Q, tA w me σ H Q → te σ H Q) (ki : ∀ σ H Q, tA w mi σ H Q → ti σ H Q) (h : tS w P (mSto i mi me) DD σ H) : tAsg te (gSub (tVar i) ti rSetY) DD σ H := by
  refine ke _ _ _ (tA_fz ?_)
  obtain ⟨Z, δ, F, e, h⟩ := h
  refine ⟨Z, δ, F, e, ?_⟩
  unfold mSto at h
  cases q : mFz me δ with
  | fail => rw [q] at h; exact h
  | exc x δ1 => rw [q] at h; exact fun cls dd Z' H' F' e' x' p' => h cls dd σ Z' H' F' e' x' p' .refl
  | ok y δ1 =>
    rw [q] at h
    simp only [R.toS_ok] at h
    intro v Z1 H1 F1 O1 e1 r1 t1 p1
    refine tVar' ⟨Z1, δ1, F1, e1, ?_⟩
    cases q2 : mVar i δ1 with
    | fail => rw [q2] at h; exact h
    | exc x δ2 => unfold mVar at q2; split at q2 <;> cases q2
    | ok a δ2 =>
      rw [q2] at h
      simp only [R.toS_ok] at h
      have e12 : a = .nm i ∧ δ2 = δ1 := by
        unfold mVar at q2
        split at q2
        · cases q2; exact ⟨rfl, rfl⟩
        · cases q2
      obtain ⟨rfl, rfl⟩ := e12
      intro o Z2 H2 F2 O2 e2 r2 t2 p2
      refine ki _ _ _ ⟨Z2, δ2, F2, e2, ?_⟩
      cases q3 : mi δ2 with
      | fail => rw [q3] at h; exact h
      | exc x δ3 =>
        rw [q3] at h
        intro cls dd Z' H' F' e' x' p'
        exact h cls dd σ Z' H' F' e' x' (((p1.drop (P3 := Pf F1) fun a z => .inl z).trans (p2.drop (P3 := Pf F2) fun a z => .inl z)).trans p') .refl
      | ok ix δ3 =>
        rw [q3] at h
        simp only [R.toS_ok] at h
        intro iv Z3 H3 F3 O3 e3 r3 t3 p3
        have r1' : RepA w.K Z3 H3 σ y v O1 := by
          have tr := r1.trk
          have s1 : RepA w.K Z2 H2 σ y v O1 := r1.mono (p2.zx e1.zP) (t1.stays p2)
          have t1' : Tmp Z2 F2 O1 := t1.on tr p2 fun i a m => .inl ⟨i, m⟩
          exact s1.mono (p3.zx e2.zP) (t1'.stays p3)
        cases hδ : δ3[i]? with
        | none => rw [hδ] at h; exact h.elim
        | some od =>
          cases od with
          | none => rw [hδ] at h; exact h.elim
          | some d =>
            rw [hδ] at h
            cases hix : resA δ3 ix with
            | none => rw [hix] at h; exact h.elim
            | some di =>
              rw [hix] at h
              cases y with
              | nm k => exact h.elim
              | dt dy =>
                dsimp only at h
                cases hp : pSet d di dy with
                | none => rw [hp] at h; exact h.elim
                | some d' =>
                  rw [hp] at h
                  obtain ⟨v', ev, rep⟩ := e3.rep i d hδ
                  rw [r2.1] at ev; cases ev
                  obtain ⟨P3, rix⟩ := e3.opnd r3 hix
                  refine pr_set rep (e3.nz i) rix r1' hp fun H4 ch rd => ?_
                  obtain ⟨e4, p4⟩ := e3.change hδ ch fun v2 q2 => by rw [r2.1] at q2; cases q2; exact rd
                  refine h σ Z3 H4 F3 e4 ?_ .refl
                  exact ((p1.drop (P3 := Pf F1) fun a z => .inl z).trans ((p2.drop (P3 := Pf F2) fun a z => .inl z).trans (p3.drop (P3 := Pf F3) fun a z => .inl z))).trans p4
end
/-! ### return of a local: what it holds goes along -/
def mMove (P : List Nat) (a : A) (δ : Env') : R D := match a with
  | .dt d => .ok d δ
  | .nm i => match δ[i]? with
    | some (some d) => if i ∈ P then .ok d.frz (δ.set i (some d.frz)) else .ok d (δ.set i none)
    | _ => .fail
def mRetM (P : List Nat) (m : Mn A) : Ms := fun δ => (m δ).toS fun a δ1 => (mMove P a δ1).toS fun d δ2 => .rt d δ2

section
variable {w : Wc} {P : List Nat} {DD : Ends} {σ : L2.St} {H : Hp}
theorem ER.drop {Z : Zp} {δ : Env'} {F : Fp} {i : Nat} {d : D} (e : ER w.K Z H δ σ F) (hd : δ[i]? = some (some d)) :
    ER w.K Z H (δ.set i none) σ (fun j => if j = i then [] else F j) ∧ Tmp Z (fun j => if j = i then [] else F j) (F i) := by
  have hi : i < δ.length := (List.getElem?_eq_some_iff.mp hd).1
  refine ⟨⟨by rw [List.length_set]; exact e.len, fun j d' q => ?_, fun j q => ?_, fun j => ?_, fun j k a m1 m2 => ?_, fun j a m => ?_, e.zt⟩, ⟨e.nd i, fun a m => e.nz i a m, fun a m j mj => ?_⟩⟩
  · by_cases hj : j = i
    · subst hj
      rw [List.getElem?_set_self hi] at q; cases q
    · rw [List.getElem?_set_ne (Ne.symm hj)] at q
      obtain ⟨v', e2, r'⟩ := e.rep j d' q
      exact ⟨v', e2, by rw [if_neg hj]; exact r'⟩
  · by_cases hj : j = i
    · rw [if_pos hj]
    · rw [if_neg hj]
      exact e.emp j fun d' q' => q d' (by rw [List.getElem?_set_ne (Ne.symm hj)]; exact q')
  · by_cases hj : j = i
    · rw [if_pos hj]; exact List.nodup_nil
    · rw [if_neg hj]; exact e.nd j
  · by_cases hj : j = i
    · rw [if_pos hj] at m1; cases m1
    · by_cases hk : k = i
      · rw [if_pos hk] at m2; cases m2
      · rw [if_neg hj] at m1; rw [if_neg hk] at m2; exact e.dj j k a m1 m2
  · by_cases hj : j = i
    · rw [if_pos hj] at m; cases m
    · rw [if_neg hj] at m; exact e.nz j a m
  · by_cases hj : j = i
    · rw [if_pos hj] at mj; cases mj
    · rw [if_neg hj] at mj; exact hj (e.dj j i a mj m)
theorem tRetM {m : Mn A} (h : tS w P (mRetM P m) DD σ H) : tRet (tA w m) DD σ H := by
  obtain ⟨Z, δ, F, e, h⟩ := h
  refine ⟨Z, δ, F, e, ?_⟩
  unfold mRetM at h
  cases q : m δ with
  | fail => rw [q] at h; exact h
  | exc x δ1 => rw [q] at h; exact fun cls dd Z' H' F' e' x' p' => h cls dd σ Z' H' F' e' x' p' .refl
  | ok a δ1 =>
    rw [q] at h
    simp only [R.toS_ok] at h
    intro v Z1 H1 F1 O e1 r1 t1 p1
    cases a with
    | dt d => exact h v σ Z1 H1 F1 O e1 r1 t1 p1 .refl
    | nm i =>
      unfold mMove at h
      dsimp only at h
      cases hδ : δ1[i]? with
      | none => rw [hδ] at h; exact h.elim
      | some od =>
        cases od with
        | none => rw [hδ] at h; exact h.elim
        | some d =>
          rw [hδ] at h
          dsimp only at h
          have p1' : Post Z H (Pf F) Z1 H1 (Pf F1) := p1.drop fun a z => .inl z
          by_cases c : i ∈ P
          · rw [if_pos c] at h
            obtain ⟨e2, p2, v', ev, r2⟩ := e1.freeze hδ
            rw [r1.1] at ev; cases ev
            exact h v σ _ H1 _ [] e2 r2 .nil (postNil (p1'.trans p2)) .refl
          · rw [if_neg c] at h
            obtain ⟨e2, t2⟩ := e1.drop hδ
            obtain ⟨v', ev, r2⟩ := e1.rep i d hδ
            rw [r1.1] at ev; cases ev
            refine h v σ Z1 H1 _ (F1 i) e2 r2 t2 (p1'.drop fun a z => ?_) .refl
            rcases z with ⟨j, m⟩ | m
            · have m : a ∈ (if j = i then [] else F1 j) := m
              by_cases hj : j = i
              · rw [if_pos hj] at m; cases m
              · rw [if_neg hj] at m; exact ⟨j, m⟩
            · exact ⟨i, m⟩
end
end Yv

set_option Elab.async false
set_option linter.all false
set_option maxRecDepth 100000
set_option maxHeartbeats 4000000
/-! I22: from the text to meanings -/
namespace Yv
open PySem L2 PySem.Spec PyProof.Rows

/-! ### lists of meanings -/
def mL : List (Mn A) → Mn (List A)
  | [] => mNil
  | m :: ms => mCons m (mL ms)
def mAnds : List (Mn A) → Mn A
  | [] => mFail
  | [a] => a
  | a :: b :: r => mAndV a (mAnds (b :: r))
def mOrs : List (Mn A) → Mn A
  | [] => mFail
  | [a] => a
  | a :: b :: r => mOrV a (mOrs (b :: r))
def mAndsT : List (Mn Bool) → Mn Bool
  | [] => mFail
  | [a] => a
  | a :: b :: r => mAnd a (mAndsT (b :: r))
def mOrsT : List (Mn Bool) → Mn Bool
  | [] => mFail
  | [a] => a
  | a :: b :: r => mOr a (mOrsT (b :: r))
def permA {α : Type} (perm : List Nat) (as : List α) : List α := perm.filterMap fun j => as[j]?
def mPerm (n : Nat) (perm : List Nat) (ms : Mn (List A)) : Mn (List A) := fun δ => (ms δ).bind fun as δ1 => if as.length = n then .ok (permA perm as) δ1 else .fail
/-- a, b = x, y; a, b, c = .. -/
def mPar (P : List Nat) (is : List Nat) (ms : Mn (List A)) : Ms := fun δ => (ms δ).toS fun as δ1 => match allDt as with
  | some ds => match tgtL P (is.map Tg.nm) ds δ1 with
    | some δ2 => .nx δ2
    | none => .fail
  | none => .fail

/-! ### what stands around -/
structure Ct where
  N : List Str
  sc : Scope
  fn : Str → Bool
  P : List Nat
  call : Str → Option (List D → CR)
  ps : Str → Option (List Str)
  kws : List (Str × Nat × List Str)
  gv : Str → Option D
  bl : List Str
  fuel : Nat

def findN (x : Str) : List Str → Option Nat
  | [] => none
  | y :: ys => if y = x then some 0 else (findN x ys).map (· + 1)
theorem findN_some {x : Str} : ∀ {ys : List Str} {i : Nat}, findN x ys = some i → ys[i]? = some x
  | y :: ys, i, h => by
    unfold findN at h
    split at h
    · rename_i e; cases h; rw [e]; rfl
    · cases q : findN x ys with
      | none => rw [q] at h; cases h
      | some j => rw [q] at h; cases h; simpa using findN_some q
def okNm (x : Str) : Bool := !(x == ("__debug__" : Str)) && !(x == ("__classdict__" : Str)) && !(x == ("__name__" : Str))
def visK : Option NameKind → Bool
  | some .local => true
  | some .cell => true
  | some .free => true
  | _ => false
def Ct.slot (C : Ct) (x : Str) : Option Nat := if visK (C.sc.names.lookup x) then findN x C.N else none
def Ct.glb (C : Ct) (x : Str) : Bool := match C.sc.names.lookup x with
  | some .globalImplicit => true
  | _ => false
/-- a built-in's name -/
def Ct.blt (C : Ct) (x : Str) : Bool := C.glb x && C.bl.contains x && okNm x
def Ct.locK (C : Ct) (x : Str) : Bool := match C.sc.names.lookup x with
  | some .local => true
  | some .cell => C.fn x
  | _ => false
def tyNm (x : Str) : Option String :=
  if x = "int" then some "int" else if x = "bool" then some "bool" else if x = "str" then some "str" else if x = "tuple" then some "tuple" else if x = "list" then some "list" else if x = "dict" then some "dict" else none
def constD : Const → Option D
  | .none => some .non
  | .bool b => some (.bl b)
  | .int i => some (.int i)
  | .str x => some (.str x)
  | _ => none
def opP : Operator → Option (D → D → Option D)
  | .Add => some pAdd
  | .Sub => some pSub
  | .Mult => some pMul
  | .FloorDiv => some pDiv
  | .Mod => some pMod
  | .Pow => some pPow
  | _ => none
def cmpP : CmpOp → D → D → Option D
  | .Eq => pEq
  | .NotEq => pNe
  | .Lt => pOrd fLt gLt
  | .LtE => pOrd fLe gLe
  | .Gt => pOrd fGt gGt
  | .GtE => pOrd fGe gGe
  | .Is => pIsN
  | .IsNot => pNotN
  | .In => pIn
  | .NotIn => pNotIn
/-- built-in functions and classes by their arguments' values -/
def bltP (f : Str) : Option (List D → Option D) :=
  if f = "len" then some pLen else if f = "tuple" then some pTupOf else if f = "list" then some pLstOf else if f = "int" then some pInt
  else if f = "isinstance" then some pIsi else if f = "all" then some (lB fAll) else if f = "any" then some (lB fAny) else if f = "sum" then some (lI fSum)
  else if f = "max" then some pMaxA else if f = "min" then some pMinA else if f = "abs" then some pAbs else if f = "repr" then some pRepr
  else if f = "sorted" then some pSort else if f = "str" then some pStr else if f = "bool" then some pBool else if f = "dict" then some pDictOf else none
/-- methods -/
def mtP (m : Str) : Option (String × String × PM × PM) :=
  if m = "append" then some ("list", "list", pAppend, pAppend)
  else if m = "extend" then some ("list", "list", pExtend, pExtend)
  else if m = "pop" then some ("list", "list", pPop, pPop)
  else if m = "index" then some ("list", "tuple", (fun d ys => match d with | .lst _ _ => pIndex d ys | _ => none), (fun d ys => match d with | .tup _ => pIndex d ys | _ => none))
  else if m = "update" then some ("dict", "dict", pUpdate, pUpdate)
  else none
def isStar : Expr → Bool
  | .Starred _ _ => true
  | _ => false
def noStar (es : List Expr) : Bool := es.all fun e => !isStar e
def isSlice : Expr → Bool
  | .Slice _ _ _ _ => true
  | _ => false
/-- the names of a comprehension's block that have slots -/
def ownOf (N : List Str) (scope : Scope) : List (Str × Nat) := scope.names.filterMap fun y => match y.2 with
  | .local => (findN y.1 N).map fun i => (y.1, i)
  | .cell => (findN y.1 N).map fun i => (y.1, i)
  | _ => none
def Ct.blk (C : Ct) (scope : Scope) : Ct := { C with sc := relS scope C.sc, fn := fun x => scope.names.lookup x == some .cell }
def isSetE : Expr → Bool
  | .Set _ _ _ => true
  | _ => false
/-- the place of each parameter among the arguments: a of them by position, then by names -/
def permOf (ps : List Str) (a : Nat) (ks : List Str) : Option (List Nat) :=
  if ps.length = a + ks.length then (List.range ps.length).mapM fun i => if i < a then some i else match ps[i]? with
    | some p => (findN p ks).map (· + a)
    | none => none
  else none
def kwNames (kws : List Keyword) : Option (List Str) := kws.mapM fun k => k.arg

/-! ### targets -/
def tgD : Nat → Ct → Expr → Option Tg
  | 0, _, _ => none
  | n + 1, C, e => match e with
    | .Name x _ => if okNm x && C.locK x then (C.slot x).map .nm else none
    | .Tuple es _ _ => if noStar es then (es.mapM (tgD n C)).map .tp else none
    | _ => none
/-! ### expressions -/
def one1 {α β : Type} (f : α → β) (g : β) : List α → β
  | [a] => f a
  | _ => g
def denCall (den : Expr → Mn A) (C : Ct) (f : Str) (args : List Expr) (kws : List Keyword) : Mn A :=
  match C.call f with
  | some fm =>
    if C.glb f && okNm f && noStar args && (kws.all fun k => k.arg.isSome) then
      match kws with
      | [] => mCall fm (mL (args.map den))
      | _ :: _ => match kwNames kws, C.ps f with
        | some ks, some ps => if C.kws.contains (f, args.length, ks) then match permOf ps args.length ks with
            | some perm => if perm.Nodup then mCall fm (mPerm ps.length perm (mL (args.map den ++ kws.map fun k => den k.value))) else mFail
            | none => mFail
          else mFail
        | _, _ => mFail
    else mFail
  | none => if C.blt f && noStar args && kws.isEmpty && !args.isEmpty then match bltP f with
      | some P => mOpL P (mL (args.map den))
      | none => mFail
    else mFail
/-- range(..) as the only argument of f -/
def rangeArg (C : Ct) (f : Str) : List Expr → Option (List Expr)
  | [.Call (.Name g _) es [] _] => if f = "range" then none else if g = "range" && C.blt "range" && noStar es then some es else none
  | _ => none
def setArg (C : Ct) : List Expr → Option Expr
  | [.Call (.Name g _) [e] [] _] => if g = "set" && C.blt "set" && !isStar e then some e else none
  | _ => none
def denForm (den : Expr → Mn A) (C : Ct) (f : Str) (args : List Expr) (kws : List Keyword) : Mn A :=
  if f = "tuple" && kws.isEmpty && C.blt "tuple" && (rangeArg C f args).isSome then match rangeArg C f args with
    | some [a] => mOp1 pRgT1 (den a)
    | some [a, b] => mOp2 pRgT2 (den a) (den b)
    | _ => mFail
  else if f = "list" && kws.isEmpty && C.blt "list" && (rangeArg C f args).isSome then match rangeArg C f args with
    | some [a] => mOp1 pRgL1 (den a)
    | some [a, b] => mOp2 pRgL2 (den a) (den b)
    | _ => mFail
  else if f = "len" && kws.isEmpty && C.blt "len" && (setArg C args).isSome then match setArg C args with
    | some e => mOp1 pSetLen (den e)
    | none => mFail
  else denCall den C f args kws
def methOk (args : List Expr) (apos cpos : Pos) : Bool := noStar args && decide (args.length < 29) && (apos.endLine == cpos.line)
def freezes (m : Str) : Bool := !(m = "extend")
def denMeth (den : Expr → Mn A) (o : Expr) (m : Str) (apos : Pos) (args : List Expr) (cpos : Pos) : Mn A := match o with
  | .Call _ _ _ _ => mFail
  | o => if methOk args apos cpos then match mtP m with
      | some (T1, T2, P1, P2) => mMe T1 T2 P1 P2 (den o) (mL (args.map fun e => if freezes m then mFz (den e) else den e))
      | none => mFail
    else mFail
/-- what is walked; tup: the target is written as a tuple -/
def isTupE : Expr → Bool
  | .Tuple _ _ _ => true
  | _ => false
def denIter (den : Expr → Mn A) (C : Ct) (tg : Expr) (it : Expr) : Mn (List D) := match it with
  | .Call (.Name f p) args kws pos =>
    if f = "range" && C.blt "range" && kws.isEmpty && noStar args then match args with
      | [a] => mItR1 (mL [den a])
      | [a, b] => mItR2 (mL [den a, den b])
      | _ => mFail
    else if f = "enumerate" && C.blt "enumerate" && kws.isEmpty && noStar args && isTupE tg then match args with
      | [a] => mItE (den a)
      | _ => mFail
    else if f = "zip" && C.blt "zip" && kws.isEmpty && noStar args && isTupE tg then match args with
      | [a, b] => mItZ (den a) (den b)
      | _ => mFail
    else mItV (den (.Call (.Name f p) args kws pos))
  | .Set _ _ _ => mFail
  | it => mItV (den it)
def denPart (den : Expr → Mn A) : Option Expr → Mn (Option Int)
  | none => mPart0
  | some e => mPart (den e)
/-- a test, from the expressions' meanings one step below -/
def denT (den : Expr → Mn A) : Nat → Expr → Mn Bool
  | 0, _ => mFail
  | n + 1, e => match e with
    | .UnaryOp .Not x _ => mNot (denT den n x)
    | .BoolOp .And es _ => mAndsT (es.map (denT den n))
    | .BoolOp .Or es _ => mOrsT (es.map (denT den n))
    | .Compare _ _ _ _ => mBl (den e)
    | .IfExp _ _ _ _ => mFail
    | e => mTru (den e)
def den : Nat → Ct → Expr → Mn A
  | 0, _, _ => mFail
  | n + 1, C, e => match e with
    | .Constant c _ _ => match constD c with
      | some d => mC d
      | none => mFail
    | .Name x _ => if okNm x then match C.slot x with
        | some i => mVar i
        | none => if C.glb x then match C.gv x with
            | some d => mC d
            | none => if C.bl.contains x then match tyNm x with
                | some T => mC (.ty T)
                | none => mFail
              else mFail
          else mFail
      else mFail
    | .UnaryOp .USub a _ => mOp1 pNeg (den n C a)
    | .UnaryOp .Not a _ => mNotV (den n C a)
    | .BinOp a op b _ => match opP op with
      | some P => mOp2 P (den n C a) (den n C b)
      | none => mFail
    | .BoolOp .And es _ => mAnds (es.map (den n C))
    | .BoolOp .Or es _ => mOrs (es.map (den n C))
    | .Compare a [op] [b] _ => if behindInMarks op b then mFail else mOp2 (cmpP op) (den n C a) (den n C b)
    | .Compare a [op, op'] [b, c] _ => if lastMarks [op, op'] [b, c] then mFail else mCh (cmpP op) (cmpP op') (den n C a) (den n C b) (den n C c)
    | .IfExp t a b _ => mIf (denT (den n C) n t) (den n C a) (den n C b)
    | .List es _ => if noStar es then mLst (mL (es.map fun e => mFz (den n C e))) else mFail
    | .Tuple es _ _ => if noStar es then mTup (mL (es.map fun e => mFz (den n C e))) else mFail
    | .Dict [] [] _ => mDct0
    | .Subscript a (.Slice none none (some (.UnaryOp .USub (.Constant (.int 1) _ _) _)) _) _ => mOp1 pRev (den n C a)
    | .Subscript a (.Slice lo hi none _) _ => mSl (den n C a) (denPart (den n C) lo) (denPart (den n C) hi)
    | .Subscript a i _ => if isSlice i then mFail else mOp2 pIx (den n C a) (den n C i)
    | .ListComp elt [⟨tg, it, ifs, 0⟩] scope _ =>
      let own := ownOf C.N scope
      if blkC C.N C.sc scope own && !isSetE it then match tgD n (C.blk scope) tg, ifs with
        | some t, [] => mLc (denIter (den n C) C tg it) t (fun δ => .ok true δ) (den n (C.blk scope) elt) (own.map (·.2))
        | some t, [c] => mLc (denIter (den n C) C tg it) t (denT (den n (C.blk scope)) n c) (den n (C.blk scope) elt) (own.map (·.2))
        | _, _ => mFail
      else mFail
    | .Call (.Name f _) args kws _ => denForm (den n C) C f args kws
    | .Call (.Attribute o m apos) args [] cpos => denMeth (den n C) o m apos args cpos
    | _ => mFail
/-! ### statements -/
def Ct.lk (C : Ct) (x : Str) : Option NameKind := C.sc.names.lookup x
/-- a local name on that line -/
def nmAt (look : Str → Option NameKind) (line : Nat) : Expr → Option Str
  | .Name id pos => if look id == some .local && pos.line == line then some id else none
  | _ => none
def nmsAt (look : Str → Option NameKind) (ts : List Expr) : List Str := ts.filterMap (nmAt look ((ts.head?.map (·.pos.line)).getD 0))
def badNms (ts : List Expr) (names : List Str) : Bool := names.length != ts.length || names.eraseDups.length != names.length
/-- names stored from the right, as the law of such assignments says -/
def swapN (C : Ct) (ts vs : List Expr) : Option (List Str) :=
  if !(ts.length == 2 || ts.length == 3) || vs.length != ts.length || C.sc.kind != .function then none
  else if vs.any isStar then none
  else if badNms ts (nmsAt C.lk ts) then none
  else if vs.all (foldedForSure 8) then none
  else if vs.all (constantsAlone 8) then none
  else some (nmsAt C.lk ts)
/-- .. and whether nothing of this is asked for -/
def noSwap (C : Ct) (ts vs : List Expr) : Bool :=
  if !(ts.length == 2 || ts.length == 3) || vs.length != ts.length then true
  else if C.sc.kind != .function then false
  else if vs.any isStar then true
  else if badNms ts (nmsAt C.lk ts) then true
  else vs.all (foldedForSure 8)
def isComp : Expr → Bool
  | .ListComp _ _ _ _ => true
  | .SetComp _ _ _ _ => true
  | .DictComp _ _ _ _ _ => true
  | _ => false
def denAsg (n : Nat) (C : Ct) (t e : Expr) : Ms := match t with
  | .Name x _ => match tgD 1 C t with
    | some tg => mAsg C.P tg (den n C e)
    | none => mFailS
  | .Tuple ts _ _ => match e with
    | .Tuple vs _ _ => if noStar ts && noStar vs then match swapN C ts vs with
        | some names => match names.mapM C.slot with
          | some is => if names.Nodup then mPar C.P is (mL (vs.map fun v => mDt (mVal (den n C v)))) else mFailS
          | none => mFailS
        | none => if noSwap C ts vs then match tgD n C t with
            | some tg => mAsg C.P tg (den n C e)
            | none => mFailS
          else mFailS
      else mFailS
    | e => if isComp e then mFailS else match tgD n C t with
      | some tg => mAsg C.P tg (den n C e)
      | none => mFailS
  | .Subscript (.Name x _) i _ => if isComp e || isSlice i then mFailS else if okNm x then match C.slot x with
      | some s => mSto s (den n C i) (den n C e)
      | none => mFailS
    else mFailS
  | _ => mFailS
def mSs : List Ms → Ms
  | [] => mPass
  | m :: ms => mSeq m (mSs ms)
def denS : Nat → Ct → Stmt → Ms
  | 0, _, _ => mFailS
  | n + 1, C, s => match s with
    | .Pass _ => mPass
    | .Break _ => mBrk
    | .Continue _ => mCt
    | .Return none _ => mRetN
    | .Return (some e) _ => mRetM C.P (den n C e)
    | .Expr e _ => if isComp e then mFailS else mDo (den n C e)
    | .If c a b _ => mIfS (denT (den n C) n c) (mSs (a.map (denS n C))) (mSs (b.map (denS n C)))
    | .While c body [] _ => mWhile (denT (den n C) n c) (mSs (body.map (denS n C))) C.fuel
    | .For tg it body [] _ => if isSetE it then mFailS else match tgD n C tg with
      | some t => mFor C.P (denIter (den n C) C tg it) t (mSs (body.map (denS n C)))
      | none => mFailS
    | .Assign [t] e _ => denAsg n C t e
    | _ => mFailS
end Yv

set_option Elab.async false
set_option linter.all false
set_option maxRecDepth 100000
set_option maxHeartbeats 4000000
/-! I23: soundness: pieces -/
namespace Yv
open PySem L2 PySem.Spec PyProof.Rows

theorem ite_some {α : Type} {c : Prop} [Decidable c] {a b : Option α} {x : α} (h : (if c then a else b) = some x) : (c ∧ a = some x) ∨ (¬ c ∧ b = some x) := by
  by_cases q : c
  · rw [if_pos q] at h; exact .inl ⟨q, h⟩
  · rw [if_neg q] at h; exact .inr ⟨q, h⟩
section
variable {w : Wc} {σ : L2.St} {H : Hp}
theorem tA_fail {Q : VK} (h : tA w mFail σ H Q) : False := by obtain ⟨Z, δ, F, e, h⟩ := h; exact h
theorem tI_fail {R : It → Hp → Prop} (h : tI w mFail σ H R) : False := by obtain ⟨Z, δ, F, e, h⟩ := h; exact h
theorem tT_fail {Q : Bool → Hp → Prop} (h : tT w mFail σ H Q) : False := by obtain ⟨Z, δ, F, e, h⟩ := h; exact h
theorem tS_fail {P : List Nat} {DD : Ends} (h : tS w P mFailS DD σ H) : False := by obtain ⟨Z, δ, F, e, h⟩ := h; exact h
theorem tT_yes {Q : Bool → Hp → Prop} (h : tT w (fun δ => .ok true δ) σ H Q) : tYes σ H Q := by
  obtain ⟨Z, δ, F, e, h⟩ := h
  exact h Z H F e .refl
end
section
variable {X : Cx} {w : Wc}
theorem pe_failY {e : Expr} : PE X e (tA w mFail) := ⟨fun _ _ _ _ _ _ h => (tA_fail h).elim⟩
theorem pt_failY {e : Expr} : PT X e (tT w mFail) := ⟨fun _ _ _ _ _ _ h => (tT_fail h).elim⟩
theorem pi_failY {t e : Expr} : PI X t e (tI w mFail) := ⟨fun _ _ _ _ _ _ h => (tI_fail h).elim⟩
theorem ps_failY {s : Stmt} {P : List Nat} : PS X s (tS w P mFailS) := ⟨fun _ _ _ _ _ _ h => (tS_fail h).elim⟩
theorem PI.imp {t e : Expr} {a b : TI} (h : PI X t e a) (k : ∀ σ H R, b σ H R → a σ H R) : PI X t e b := ⟨fun p s σ H R I q => h.run p s σ H R I (k σ H R q)⟩
theorem PG.imp {e : Expr} {a b : TG} (h : PG X e a) (k : ∀ v σ H Q, b v σ H Q → a v σ H Q) : PG X e b := ⟨fun p s σ H v u Q I r q => h.run p s σ H v u Q I r (k v σ H Q q)⟩
theorem PGs.imp {e : List Expr} {a b : TGs} (h : PGs X e a) (k : ∀ v σ H Q, b v σ H Q → a v σ H Q) : PGs X e b := ⟨fun p s σ H v u Q I r q => h.run p s σ H v u Q I r (k v σ H Q q)⟩
theorem PO.imp {e : Option Expr} {a b : TO} (h : PO X e a) (k : ∀ σ H Q, b σ H Q → a σ H Q) : PO X e b := ⟨fun p s σ H Q I q => h.run p s σ H Q I (k σ H Q q)⟩
/-! ### lists without a star -/
theorem star_cons {e : Expr} {es : List Expr} {env : Env} (h : isStar e = false) : starEach (e :: es) env = (false, eval e env) :: starEach es env := by
  cases e <;> first | rfl | (simp [isStar] at h)
theorem star_plain {env : Env} {pos : Pos} : ∀ {es : List Expr}, noStar es = true → (backTo pos (starEach es env)).any (·.1) = false
  | [], _ => rfl
  | e :: es, h => by
    simp only [noStar, List.all_cons, Bool.and_eq_true, Bool.not_eq_true'] at h
    rw [star_cons h.1]
    show (false || (backTo pos (starEach es env)).any (·.1)) = false
    rw [Bool.false_or]
    exact star_plain (by simpa [noStar] using h.2)
theorem noStar_cons {e : Expr} {es : List Expr} (h : noStar (e :: es) = true) : isStar e = false ∧ noStar es = true := by
  simp only [noStar, List.all_cons, Bool.and_eq_true, Bool.not_eq_true'] at h
  exact ⟨h.1, by simpa [noStar] using h.2⟩
theorem pa_list {m : Expr → Mn A} (hm : ∀ e, PE X e (tA w (m e))) : ∀ {es : List Expr}, noStar es = true → PA X es (tAs w (mL (es.map m)))
  | [], _ => PA.imp pa_nil fun σ H Q h => tAs_nil h
  | e :: es, h => by
    obtain ⟨h1, h2⟩ := noStar_cons h
    exact PA.imp (pa_cons (hm e) (pa_list hm h2) (star_cons h1)) fun σ H Q h => tAs_cons h
/-! ### and, or -/
theorem pe_ands {m : Expr → Mn A} (hm : ∀ e, PE X e (tA w (m e))) {pos : Pos} : ∀ {es : List Expr}, PE X (.BoolOp .And es pos) (tA w (mAnds (es.map m)))
  | [] => pe_failY
  | [a] => pe_one (hm a)
  | a :: b :: r => PE.imp (pe_and (hm a) (pe_ands hm)) fun σ H Q h => tAndV' h
theorem pe_ors {m : Expr → Mn A} (hm : ∀ e, PE X e (tA w (m e))) {pos : Pos} : ∀ {es : List Expr}, PE X (.BoolOp .Or es pos) (tA w (mOrs (es.map m)))
  | [] => pe_failY
  | [a] => pe_one (hm a)
  | a :: b :: r => PE.imp (pe_or (hm a) (pe_ors hm)) fun σ H Q h => tOrV' h
theorem pw_ands {m : Expr → Mn Bool} (hm : ∀ e, PT X e (tT w (m e))) {pos : Pos} : ∀ {es : List Expr}, PW X (.BoolOp .And es pos) (tT w (mAndsT (es.map m)))
  | [] => ⟨fun _ _ _ _ _ _ _ h => (tT_fail h).elim⟩
  | [a] => pw_and1 (hm a)
  | a :: b :: r => PW.imp (pw_and (hm a) (pw_ands hm)) fun σ H Q h => tAnd' h
theorem pw_ors {m : Expr → Mn Bool} (hm : ∀ e, PT X e (tT w (m e))) {pos : Pos} : ∀ {es : List Expr}, PW X (.BoolOp .Or es pos) (tT w (mOrsT (es.map m)))
  | [] => ⟨fun _ _ _ _ _ _ _ h => (tT_fail h).elim⟩
  | [a] => pw_or1 (hm a)
  | a :: b :: r => PW.imp (pw_or (hm a) (pw_ors hm)) fun σ H Q h => tOr' h
/-! ### operators -/
theorem op_ok {op : Operator} {P : D → D → Option D} (h : opP op = some P) : ∃ r, OpR X (binaryOp op) r ∧ Pr2 X.K r P := by
  cases op <;> first | cases h | skip
  · exact ⟨_, op_addA, pr_add⟩
  · exact ⟨_, op_sub, pr_sub⟩
  · exact ⟨_, op_mulA, pr_mul⟩
  · exact ⟨_, op_mod, pr_mod⟩
  · exact ⟨_, op_powW, pr_pow⟩
  · exact ⟨_, op_fdivW, pr_div⟩
theorem cmp_ok (hu : X.A.units + 65 < cLine) (op : CmpOp) : ∃ r, OpR X (compareOp op) r ∧ Pr2 X.K r (cmpP op) := by
  cases op
  · exact ⟨_, op_eqD (by omega), pr_eq⟩
  · exact ⟨_, op_neD (by omega), pr_ne⟩
  · exact ⟨_, op_ltA, pr_ord⟩
  · exact ⟨_, op_leA, pr_ord⟩
  · exact ⟨_, op_gtA, pr_ord⟩
  · exact ⟨_, op_geA, pr_ord⟩
  · exact ⟨_, op_isN, pr_isN⟩
  · exact ⟨_, op_notN, pr_notN⟩
  · exact ⟨_, op_inA hu, pr_in⟩
  · exact ⟨_, op_notInA hu, pr_notIn⟩
/-! ### built-ins -/
theorem tyNm_ok {x : Str} {T : String} (h : tyNm x = some T) : bootBuiltins x = some (.type T) := by
  unfold tyNm at h
  rcases ite_some h with ⟨rfl, h⟩ | ⟨_, h⟩
  · cases h; decide +kernel
  rcases ite_some h with ⟨rfl, h⟩ | ⟨_, h⟩
  · cases h; decide +kernel
  rcases ite_some h with ⟨rfl, h⟩ | ⟨_, h⟩
  · cases h; decide +kernel
  rcases ite_some h with ⟨rfl, h⟩ | ⟨_, h⟩
  · cases h; decide +kernel
  rcases ite_some h with ⟨rfl, h⟩ | ⟨_, h⟩
  · cases h; decide +kernel
  rcases ite_some h with ⟨rfl, h⟩ | ⟨_, h⟩
  · cases h; decide +kernel
  cases h
theorem bltP_ok (hc : X.calm = true) (hg : X.A.guards = some []) (hu : X.A.units + 65 < cLine) {f : Str} {P : List D → Option D} (h : bltP f = some P) :
    ∃ r, PrL X.K r P ∧ ((∃ id, CallR X (.builtin id) r ∧ bootBuiltins f = some (.builtin id)) ∨ ∃ T, CallR X (.type T) r ∧ bootBuiltins f = some (.type T)) := by
  unfold bltP at h
  rcases ite_some h with ⟨rfl, h⟩ | ⟨_, h⟩
  · cases h; exact ⟨_, pr_len, .inl ⟨_, call_lenA, by decide +kernel⟩⟩
  rcases ite_some h with ⟨rfl, h⟩ | ⟨_, h⟩
  · cases h; exact ⟨_, pr_tupOf, .inr ⟨_, call_tupOfY, by decide +kernel⟩⟩
  rcases ite_some h with ⟨rfl, h⟩ | ⟨_, h⟩
  · cases h; exact ⟨_, pr_lstOf, .inr ⟨_, call_list_of, by decide +kernel⟩⟩
  rcases ite_some h with ⟨rfl, h⟩ | ⟨_, h⟩
  · cases h; exact ⟨_, pr_int, .inr ⟨_, call_intA, by decide +kernel⟩⟩
  rcases ite_some h with ⟨rfl, h⟩ | ⟨_, h⟩
  · cases h; exact ⟨_, pr_isi, .inl ⟨_, call_isi, by decide +kernel⟩⟩
  rcases ite_some h with ⟨rfl, h⟩ | ⟨_, h⟩
  · cases h; exact ⟨_, pr_all, .inl ⟨_, cr_all hc, by decide +kernel⟩⟩
  rcases ite_some h with ⟨rfl, h⟩ | ⟨_, h⟩
  · cases h; exact ⟨_, pr_any, .inl ⟨_, cr_any hc, by decide +kernel⟩⟩
  rcases ite_some h with ⟨rfl, h⟩ | ⟨_, h⟩
  · cases h; exact ⟨_, pr_sum, .inl ⟨_, cr_sum hc, by decide +kernel⟩⟩
  rcases ite_some h with ⟨rfl, h⟩ | ⟨_, h⟩
  · cases h; exact ⟨_, pr_max, .inl ⟨_, call_maxA hc, by decide +kernel⟩⟩
  rcases ite_some h with ⟨rfl, h⟩ | ⟨_, h⟩
  · cases h; exact ⟨_, pr_min, .inl ⟨_, call_minA hc, by decide +kernel⟩⟩
  rcases ite_some h with ⟨rfl, h⟩ | ⟨_, h⟩
  · cases h; exact ⟨_, pr_abs, .inl ⟨_, call_abs, by decide +kernel⟩⟩
  rcases ite_some h with ⟨rfl, h⟩ | ⟨_, h⟩
  · cases h; exact ⟨_, pr_repr, .inl ⟨_, call_reprA hg hu, by decide +kernel⟩⟩
  rcases ite_some h with ⟨rfl, h⟩ | ⟨_, h⟩
  · cases h; exact ⟨_, pr_sort, .inl ⟨_, call_sortA, by decide +kernel⟩⟩
  rcases ite_some h with ⟨rfl, h⟩ | ⟨_, h⟩
  · cases h; exact ⟨_, pr_str, .inr ⟨_, call_str_int, by decide +kernel⟩⟩
  rcases ite_some h with ⟨rfl, h⟩ | ⟨_, h⟩
  · cases h; exact ⟨_, pr_bool, .inr ⟨_, call_bool1, by decide +kernel⟩⟩
  rcases ite_some h with ⟨rfl, h⟩ | ⟨_, h⟩
  · cases h; exact ⟨_, pr_dictOf, .inr ⟨_, call_dictP hc, by decide +kernel⟩⟩
  cases h
theorem mtP_ok (hu : X.A.units + 65 < cLine) {m : Str} {T1 T2 : String} {P1 P2 : PM} (h : mtP m = some (T1, T2, P1, P2)) :
    ∃ id1 id2 r1 r2, MtOk X T1 m id1 r1 ∧ MtOk X T2 m id2 r2 ∧ PrM X.K r1 P1 ∧ PrM X.K r2 P2 := by
  unfold mtP at h
  rcases ite_some h with ⟨rfl, h⟩ | ⟨_, h⟩
  · cases h
    have ok : MtOk X "list" "append" "list.append" rAppend := ⟨PySem.F.plainAttrs_list, PySem.F.slot_list_append, PySem.F.type_list_append, mt_append⟩
    exact ⟨_, _, _, _, ok, ok, pr_append, pr_append⟩
  rcases ite_some h with ⟨rfl, h⟩ | ⟨_, h⟩
  · cases h
    have ok : MtOk X "list" "extend" "list.extend" (rExtendA X.K) := ⟨PySem.F.plainAttrs_list, PySem.F.slot_list_extend, PySem.F.type_list_extend, mt_extendA⟩
    exact ⟨_, _, _, _, ok, ok, pr_extend, pr_extend⟩
  rcases ite_some h with ⟨rfl, h⟩ | ⟨_, h⟩
  · cases h
    have ok : MtOk X "list" "pop" "list.pop" rPopA := ⟨PySem.F.plainAttrs_list, PySem.F.slot_list_pop, PySem.F.type_list_pop, mt_popA⟩
    exact ⟨_, _, _, _, ok, ok, pr_pop, pr_pop⟩
  rcases ite_some h with ⟨rfl, h⟩ | ⟨_, h⟩
  · cases h
    exact ⟨_, _, _, _, ⟨PySem.F.plainAttrs_list, PySem.F.slot_list_index, PySem.F.type_list_index, mt_indexD hu⟩, ⟨PySem.F.plainAttrs_tuple, PySem.F.slot_tuple_index, PySem.F.type_tuple_index, mt_indexT hu⟩, pr_indexL, pr_indexT⟩
  rcases ite_some h with ⟨rfl, h⟩ | ⟨_, h⟩
  · cases h
    have ok : MtOk X "dict" "update" "dict.update" rUpdate := ⟨PySem.F.plainAttrs_dict, PySem.F.slot_dict_update, PySem.F.type_dict_update, mt_update⟩
    exact ⟨_, _, _, _, ok, ok, pr_update, pr_update⟩
  cases h
end
end Yv

set_option Elab.async false
set_option linter.all false
set_option maxRecDepth 100000
set_option maxHeartbeats 4000000
/-! I24: soundness of expressions -/
namespace Yv
open PySem L2 PySem.Spec PyProof.Rows

/-- how a call binds that has a positional arguments and then the names ks -/
def KwB (K : PySem.W.Frag) (fd : FuncData) (ps : List Str) (a : Nat) (ks : List Str) (perm : List Nat) : Prop :=
  ∀ (s : Shared) (us ws : List Value), K.In s.heap → us.length = a → ws.length = ks.length → BindsTo s fd ⟨us, ks.zip ws⟩ (ps.zip (permA perm (us ++ ws)))
structure XO (CX : CXT) (X : Cx) (ca : Nat → Addr) (W : WX) (C : Ct) : Prop where
  hN : X.N = C.N
  nd : C.N.Nodup
  sc : X.env.scope = C.sc
  fn : ∀ x, C.fn x = true → X.fn x = true
  calm : X.calm = true
  gd : X.A.guards = some []
  un : X.A.units + 65 < cLine
  bl : ∀ x, C.bl.contains x = true → X.mg x = none
  gv : ∀ x d, C.gv x = some d → ∃ v u, X.mg x = some u ∧ RelV v u ∧ ∀ Z H, Rep X.K Z H d v []
  call : ∀ x fm, C.call x = some fm → ∃ k f fd ps, FnG X.prog X.w X.K X.mg X.base CX k f fd ps (spF X.K ca fm) ∧ RoomG k X.A ∧ X.mg x = some (.ref f) ∧ PySem.W.keepIn X.K (.ref f) = true ∧
    Binds X.K fd ps [] ∧ C.ps x = some ps ∧ ∀ a ks, C.kws.contains (x, a, ks) = true → ∀ perm, permOf ps a ks = some perm → KwB X.K fd ps a ks perm
  pass : ∀ σ, PassesAt CX X σ (fun cls dd H => W cls dd σ H)
  cxF : ∀ outer H s e s', CX outer H s (fun _ _ _ => False) e s' → False
abbrev wOf (X : Cx) (ca : Nat → Addr) (W : WX) : Wc := ⟨X.K, ca, W⟩

/-! ### names in order -/
section
variable {w : Wc} {σ : L2.St} {H : Hp}
theorem tA_mono {m : Mn A} {Q Q' : VK} (k : ∀ v H, Q v H → Q' v H) (h : tA w m σ H Q) : tA w m σ H Q' := by
  obtain ⟨Z, δ, F, e, h⟩ := h
  refine ⟨Z, δ, F, e, ?_⟩
  cases q : m δ with
  | fail => rw [q] at h; exact h
  | exc x δ1 => rw [q] at h; exact h
  | ok a δ1 => rw [q] at h; exact fun v Z' H' F' O e' r t p => k v H' (h v Z' H' F' O e' r t p)
def tLs (w : Wc) : List (Mn A) → TA
  | [] => tNil
  | m :: ms => tCons (tA w m) (tLs w ms)
theorem tLs_mono : ∀ {ms : List (Mn A)} {H : Hp} {Q Q' : List V → Hp → Prop}, (∀ v H, Q v H → Q' v H) → tLs w ms σ H Q → tLs w ms σ H Q'
  | [], _, _, _, k, h => k _ _ h
  | m :: ms, _, _, _, k, h => tA_mono (fun v H1 h1 => tLs_mono (fun vs H2 => k (v :: vs) H2) h1) h
theorem tAs_ls : ∀ {ms : List (Mn A)} {H : Hp} {Q : List V → Hp → Prop}, tAs w (mL ms) σ H Q → tLs w ms σ H Q
  | [], _, _, h => tAs_nil h
  | m :: ms, _, _, h => tA_mono (fun v H1 h1 => tAs_ls h1) (tAs_cons h)
theorem tLs_app : ∀ {ms ns : List (Mn A)} {H : Hp} {Q : List V → Hp → Prop}, tLs w (ms ++ ns) σ H Q → tLs w ms σ H fun vs H1 => tLs w ns σ H1 fun zs H2 => Q (vs ++ zs) H2
  | [], ns, _, _, h => h
  | m :: ms, ns, _, _, h => tA_mono (fun v H1 h1 => tLs_app h1) h
theorem permA_get {α : Type} {perm : List Nat} {as : List α} : permA perm as = perm.filterMap fun j => as[j]? := rfl
theorem RepAs.perm {Z : Zp} {as : List A} {vs : List V} {Os : List (List Addr)} (r : RepAs w.K Z H σ as vs Os) : ∀ perm : List Nat, RepAs w.K Z H σ (permA perm as) (permA perm vs) (permA perm Os)
  | [] => ⟨rfl, rfl⟩
  | j :: perm => by
    obtain ⟨l1, l2⟩ := r.length
    have ih := RepAs.perm r perm
    unfold permA at ih ⊢
    rw [List.filterMap_cons, List.filterMap_cons, List.filterMap_cons]
    cases q : as[j]? with
    | none =>
      have h := List.getElem?_eq_none_iff.mp q
      rw [List.getElem?_eq_none (by omega : vs.length ≤ j), List.getElem?_eq_none (by omega : Os.length ≤ j)]
      exact ih
    | some a =>
      obtain ⟨v, O, q1, q2, q3⟩ := RepAs.get (w := w) r q
      rw [q1, q2]
      exact ⟨v, _, O, _, rfl, rfl, q3, ih⟩
theorem tAs_perm {n : Nat} {perm : List Nat} {m : Mn (List A)} (nd : perm.Nodup) {Q : List V → Hp → Prop} (h : tAs w (mPerm n perm m) σ H Q) : tAs w m σ H fun vs H1 => vs.length = n ∧ Q (permA perm vs) H1 := by
  obtain ⟨Z, δ, F, e, h⟩ := h
  refine ⟨Z, δ, F, e, ?_⟩
  unfold mPerm at h
  cases q : m δ with
  | fail => rw [q] at h; exact h
  | exc x δ1 => rw [q] at h; exact h
  | ok as δ1 =>
    rw [q] at h
    simp only [R.bind_ok] at h
    intro vs Z1 H1 F1 Os e1 r1 t1 p1
    obtain ⟨l1, l2⟩ := r1.length
    by_cases c : as.length = n
    · rw [if_pos c] at h
      have sub : ∀ a ∈ (permA perm Os).flatten, a ∈ Os.flatten := fun a m => by
        obtain ⟨O, m1, m2⟩ := List.mem_flatten.mp m
        obtain ⟨j, _, m3⟩ := List.mem_filterMap.mp m1
        exact List.mem_flatten.mpr ⟨O, List.mem_of_getElem? m3, m2⟩
      refine ⟨by omega, h _ Z1 H1 F1 _ e1 (r1.perm perm) ⟨?_, fun a m => t1.nz a (sub a m), fun a m => t1.dj a (sub a m)⟩ (p1.drop fun a z => z.imp id (sub a))⟩
      unfold List.Nodup permA
      rw [List.pairwise_flatten]
      constructor
      · intro O m1
        obtain ⟨j, _, m3⟩ := List.mem_filterMap.mp m1
        exact flat_nd t1.nd m3
      · rw [List.pairwise_filterMap]
        refine List.Pairwise.imp ?_ nd
        intro j k hjk O hO O' hO' a ma b mb e
        subst e
        exact hjk (flat_dj t1.nd hO hO' ma mb)
    · rw [if_neg c] at h; exact h.elim
end
theorem Vals.perm {vs : List V} {us : List Value} (r : Vals vs us) : ∀ perm : List Nat, Vals (permA perm vs) (permA perm us)
  | [] => .nil
  | j :: perm => by
    have ih := Vals.perm r perm
    unfold permA at ih ⊢
    rw [List.filterMap_cons, List.filterMap_cons]
    have l := r.length
    cases q : vs[j]? with
    | none =>
      have h := List.getElem?_eq_none_iff.mp q
      rw [List.getElem?_eq_none (by omega : us.length ≤ j)]
      exact ih
    | some v =>
      obtain ⟨u, q1, q2⟩ := r.get q
      rw [q1]
      exact .cons q2 ih
def gKw {α : Type} (a n : Nat) (perm : List Nat) (us ws : List α) : List α := if us.length = a ∧ ws.length = n then permA perm (us ++ ws) else []
theorem kbinds_of {K : PySem.W.Frag} {fd : FuncData} {ps : List Str} {a : Nat} {ks : List Str} {perm : List Nat} (h : KwB K fd ps a ks perm) (ne : ps.length ≠ 0) : KBinds K fd ps ks (gKw a ks.length perm) (gKw a ks.length perm) := by
  refine ⟨fun s us ws hk hl => ?_, fun {vs us zs ws} r1 r2 => ?_⟩
  · by_cases c : us.length = a ∧ ws.length = ks.length
    · unfold gKw; rw [if_pos c]; exact h s us ws hk c.1 c.2
    · unfold gKw at hl; rw [if_neg c] at hl; exact absurd hl.symm ne
  · unfold gKw
    rw [r1.length, r2.length]
    split
    · exact Vals.perm (r1.append r2) perm
    · exact .nil

section
variable {CX : CXT} {X : Cx} {ca : Nat → Addr} {W : WX} {C : Ct}
theorem XO.blk (o : XO CX X ca W C) (s : Shared) (H : Hp) (scope : Scope) (cl : List (Str × Addr)) (c : Addr) (fp : List Addr) : XO CX (X.blk s H scope (compEnvC scope cl c X.env) fp) ca (fun _ _ _ _ => False) (C.blk scope) where
  hN := o.hN
  nd := o.nd
  sc := by show relS scope X.env.scope = relS scope C.sc; rw [o.sc]
  fn := fun x h => h
  calm := o.calm
  gd := o.gd
  un := o.un
  bl := o.bl
  gv := o.gv
  call := o.call
  pass := fun σ pins H s e s' _ h => o.cxF _ _ _ _ _ h
  cxF := o.cxF
theorem XO.vis (o : XO CX X ca W C) {x : Str} {i : Nat} (h : C.slot x = some i) : X.N[i]? = some x ∧ Vis X.env.scope x := by
  unfold Ct.slot at h
  rcases ite_some h with ⟨c, h⟩ | ⟨_, h⟩
  · refine ⟨by rw [o.hN]; exact findN_some h, ?_⟩
    unfold Vis
    rw [o.sc]
    revert c
    cases q : C.sc.names.lookup x with
    | none => intro c; simp [visK] at c
    | some k => cases k <;> intro c <;> simp [visK] at c ⊢
  · cases h
theorem XO.gl (o : XO CX X ca W C) {x : Str} (h : C.glb x = true) : Gl X x := by
  show X.env.scope.names.lookup x = some .globalImplicit
  rw [o.sc]
  unfold Ct.glb at h
  split at h
  · assumption
  · cases h
theorem okNm1 {x : Str} (h : okNm x = true) : (x == ("__debug__" : Str)) = false := by
  simp only [okNm, Bool.and_eq_true, Bool.not_eq_true'] at h; exact h.1.1
theorem okNm2 {x : Str} (h : okNm x = true) : (x == ("__classdict__" : Str)) = false := by
  simp only [okNm, Bool.and_eq_true, Bool.not_eq_true'] at h; exact h.1.2
theorem okNm3 {x : Str} (h : okNm x = true) : x ≠ ("__name__" : Str) := by
  simp only [okNm, Bool.and_eq_true, Bool.not_eq_true'] at h; exact beq_eq_false_iff_ne.mp h.2
theorem blt3 (o : XO CX X ca W C) {x : Str} (h : C.blt x = true) : Gl X x ∧ X.mg x = none ∧ okNm x = true := by
  simp only [Ct.blt, Bool.and_eq_true] at h
  exact ⟨o.gl h.1.1, o.bl x h.1.2, h.2⟩
/-! ### targets -/
theorem assign_len : ∀ {es : List Expr} {env : Env}, (assignEach es env).length = es.length
  | [], _ => rfl
  | e :: es, env => by cases e <;> simp [assignEach, assign_len]
theorem assign_cons {e : Expr} {es : List Expr} {env : Env} (h : isStar e = false) : assignEach (e :: es) env = (false, assign e env) :: assignEach es env := by
  cases e <;> first | rfl | (simp [isStar] at h)
theorem assign_plain : ∀ {es : List Expr} {env : Env}, noStar es = true → (assignEach es env).findIdx? (·.1) = none
  | [], _, _ => rfl
  | e :: es, env, h => by
    obtain ⟨h1, h2⟩ := noStar_cons h
    rw [assign_cons h1, List.findIdx?_cons]
    simp [assign_plain h2]
theorem mapM_cons {α β : Type} {f : α → Option β} {a : α} {as : List α} {bs : List β} (h : (a :: as).mapM f = some bs) : ∃ b bs', f a = some b ∧ as.mapM f = some bs' ∧ bs = b :: bs' := by
  rw [List.mapM_cons] at h
  cases q1 : f a with
  | none => rw [q1] at h; cases h
  | some b =>
    rw [q1] at h
    cases q2 : as.mapM f with
    | none => rw [q2] at h; cases h
    | some bs' => rw [q2] at h; cases h; exact ⟨b, bs', rfl, rfl, rfl⟩
theorem pgs_list {P : List Nat} {f : Expr → Option Tg} (hf : ∀ e t, f e = some t → PG X e (tG (wOf X ca W) P t)) : ∀ {es : List Expr} {ts : List Tg}, noStar es = true → es.mapM f = some ts → PGs X es (tGs (wOf X ca W) P ts) ∧ ts.length = es.length
  | [], ts, _, h => by cases h; exact ⟨PGs.imp pgs_nil fun v σ H Q h => tGs_nil h, rfl⟩
  | e :: es, ts, hs, h => by
    obtain ⟨t, ts', h1, h2, rfl⟩ := mapM_cons h
    obtain ⟨s1, s2⟩ := noStar_cons hs
    obtain ⟨g, l⟩ := pgs_list hf s2 h2
    refine ⟨PGs.imp (pgs_cons (hf e t h1) g (by rw [assign_cons s1]; rfl)) fun v σ H Q h => tGs_cons h, by simp [l]⟩
theorem tg_sound (o : XO CX X ca W C) (P : List Nat) : ∀ (n : Nat) (e : Expr) (t : Tg), tgD n C e = some t → PG X e (tG (wOf X ca W) P t)
  | 0, _, _, h => by cases h
  | n + 1, e, t, h => by
    unfold tgD at h
    split at h
    · rename_i x p
      rcases ite_some h with ⟨c, h⟩ | ⟨_, h⟩
      · simp only [Bool.and_eq_true] at c
        cases q : C.slot x with
        | none => rw [q] at h; cases h
        | some i =>
          rw [q] at h; cases h
          obtain ⟨hi, _⟩ := o.vis q
          have lk := c.2
          unfold Ct.locK at lk
          have : (X.env.scope.names.lookup x = some .local) ∨ (X.env.scope.names.lookup x = some .cell ∧ X.fn x = true) := by
            rw [o.sc]
            split at lk
            · exact .inl (by assumption)
            · exact .inr ⟨by assumption, o.fn x lk⟩
            · cases lk
          refine PG.imp (pg_name (by rw [o.hN]; exact o.nd) hi (this.imp id fun z => z.1) (this.elim .inr fun z => .inl z.2)) fun v σ H Q h => tG_name h
      · cases h
    · rename_i es k p
      rcases ite_some h with ⟨c, h⟩ | ⟨_, h⟩
      · cases q : es.mapM (tgD n C) with
        | none => rw [q] at h; cases h
        | some ts =>
          rw [q] at h; cases h
          obtain ⟨g, l⟩ := pgs_list (fun e t he => tg_sound o P n e t he) c q
          exact PG.imp (pg_tup (n := es.length) o.calm g assign_len (assign_plain c)) fun v σ H Q h => tG_tup (w := wOf X ca W) (fun vs σ Q h => h) l h
      · cases h
    · cases h
/-! ### calls -/
theorem pa_ls {m : Expr → Mn A} {w : Wc} (hm : ∀ e, PE X e (tA w (m e))) : ∀ {es : List Expr}, noStar es = true → PA X es (tLs w (es.map m))
  | [], _ => pa_nil
  | e :: es, h => by
    obtain ⟨h1, h2⟩ := noStar_cons h
    exact pa_cons (hm e) (pa_ls hm h2) (star_cons h1)
theorem pk_ls {m : Expr → Mn A} {w : Wc} (hm : ∀ e, PE X e (tA w (m e))) : ∀ {kws : List Keyword}, PK X kws (tLs w (kws.map fun k => m k.value))
  | [] => pk_nil
  | ⟨nm, e, p⟩ :: kws => pk_cons (hm e) (pk_ls hm)
theorem kw_some {pos : Pos} {env : Env} : ∀ {kws : List Keyword} {ks : List Str}, kwNames kws = some ks → (backToKw pos (keywordEach kws env)).all (·.1.isSome) = true ∧ (backToKw pos (keywordEach kws env)).filterMap (·.1) = ks ∧ (backToKw pos (keywordEach kws env)).any (·.1.isNone) = false ∧ ks.length = kws.length
  | [], ks, h => by cases h; exact ⟨rfl, rfl, rfl, rfl⟩
  | ⟨nm, e, p⟩ :: kws, ks, h => by
    obtain ⟨k, ks', h1, h2, rfl⟩ := mapM_cons (f := fun k : Keyword => k.arg) h
    have h1 : nm = some k := h1
    subst h1
    obtain ⟨a, b, c, d⟩ := kw_some (pos := pos) (env := env) h2
    refine ⟨?_, ?_, ?_, by simp [d]⟩
    · show (true && (backToKw pos (keywordEach kws env)).all (·.1.isSome)) = true
      rw [a]; rfl
    · show ((some k, _) :: backToKw pos (keywordEach kws env)).filterMap (·.1) = _
      simp only [List.filterMap_cons]
      rw [b]
    · show (false || (backToKw pos (keywordEach kws env)).any (·.1.isNone)) = false
      rw [c]; rfl
theorem call_sound (o : XO CX X ca W C) {m : Expr → Mn A} (hm : ∀ e, PE X e (tA (wOf X ca W) (m e))) {f : Str} {args : List Expr} {kws : List Keyword} {p pos : Pos} : PE X (.Call (.Name f p) args kws pos) (tA (wOf X ca W) (denCall m C f args kws)) := by
  unfold denCall
  split
  · rename_i fm hf
    split
    · rename_i c
      simp only [Bool.and_eq_true] at c
      obtain ⟨⟨⟨c1, c2⟩, c3⟩, c4⟩ := c
      obtain ⟨k, fa, fd, ps, F, room, mgf, kp, bd, hps, hkw⟩ := o.call f fm hf
      split
      · -- by position
        cases args with
        | nil =>
          refine PE.imp (pe_callG0 F room (o.gl c1) mgf kp bd o.pass (okNm1 c2)) fun σ H Q h => ?_
          exact tAs_nil (tCall' (w := wOf X ca W) h)
        | cons e es =>
          obtain ⟨s1, s2⟩ := noStar_cons c3
          refine PE.imp (pe_callG F room (o.gl c1) mgf kp bd o.pass (pa_list hm c3) (okNm1 c2) (star_cons s1) (star_plain s2)) fun σ H Q h => ?_
          exact tCall' (w := wOf X ca W) h
      · rename_i k1 kr
        split
        · rename_i ks ps' hks hps'
          rw [hps] at hps'; cases hps'
          split
          · rename_i hc
            split
            · rename_i perm hperm
              split
              · rename_i nd
                obtain ⟨q1, q2, q3, q4⟩ := kw_some (pos := pos) (env := X.env) hks
                have len : ps.length = args.length + ks.length := by
                  unfold permOf at hperm
                  rcases ite_some hperm with ⟨c, _⟩ | ⟨_, h⟩
                  · exact c
                  · cases h
                have ne : ps.length ≠ 0 := by rw [len, q4]; simp
                have kb := kbinds_of (hkw _ _ hc perm hperm) ne
                have fin : ∀ σ H Q, tA (wOf X ca W) (mCall fm (mPerm ps.length perm (mL (args.map m ++ (k1 :: kr).map fun k => m k.value)))) σ H Q →
                    tCallG (spF X.K ca fm) (gKw args.length ks.length perm) (fun σ cls dd H => W cls dd σ H) (tLs (wOf X ca W) (args.map m)) (tLs (wOf X ca W) ((k1 :: kr).map fun k => m k.value)) σ H Q := by
                  intro σ H Q h
                  have h1 := tLs_app (tAs_ls (tAs_perm nd (tCall' (w := wOf X ca W) h)))
                  have lens : ∀ {ms : List (Mn A)} {H : Hp} {Q : List V → Hp → Prop}, tLs (wOf X ca W) ms σ H Q → tLs (wOf X ca W) ms σ H fun vs H1 => vs.length = ms.length ∧ Q vs H1 := by
                    intro ms
                    induction ms with
                    | nil => intro H Q h; exact ⟨rfl, h⟩
                    | cons m ms ih => intro H Q h; exact tA_mono (fun v H1 h1 => tLs_mono (fun vs H2 h2 => ⟨by rw [List.length_cons, List.length_cons, h2.1], h2.2⟩) (ih h1)) h
                  refine tLs_mono (fun vs H1 h2 => ?_) (lens h1)
                  refine tLs_mono (fun zs H2 h3 => ?_) (lens h2.2)
                  have e1 : vs.length = args.length := by rw [h2.1, List.length_map]
                  have e2 : zs.length = ks.length := by rw [h3.1, List.length_map, q4]
                  unfold gKw
                  rw [if_pos ⟨e1, e2⟩]
                  exact h3.2.2
                cases args with
                | nil => exact PE.imp (pe_callGK0 F room (o.gl c1) mgf kp kb o.pass (pk_ls hm) q1 q2 (okNm1 c2) (by rw [q3]; rfl)) fin
                | cons e es =>
                  obtain ⟨s1, s2⟩ := noStar_cons c3
                  refine PE.imp (pe_callGK F room (o.gl c1) mgf kp kb o.pass (pa_ls hm c3) (pk_ls hm) q1 q2 (okNm1 c2) (star_cons s1) ?_) fin
                  rw [q3, star_cons s1]
                  show ((false || (backTo pos (starEach es X.env)).any (·.1)) || false) = false
                  rw [star_plain s2]; rfl
              · exact pe_failY
            · exact pe_failY
          · exact pe_failY
        · exact pe_failY
    · exact pe_failY
  · split
    · rename_i c
      simp only [Bool.and_eq_true, Bool.not_eq_true'] at c
      obtain ⟨⟨⟨c1, c2⟩, c3⟩, c4⟩ := c
      obtain ⟨g1, g2, g3⟩ := blt3 o c1
      have ek : kws = [] := List.isEmpty_iff.mp c3
      subst ek
      cases args with
      | nil => simp at c4
      | cons e es =>
        obtain ⟨s1, s2⟩ := noStar_cons c2
        split
        · rename_i P hP
          obtain ⟨r, pr, ⟨id, cr, bt⟩ | ⟨T, cr, bt⟩⟩ := bltP_ok (X := X) o.calm o.gd o.un hP
          · exact PE.imp (pe_callB cr g1 g2 bt (pa_list hm c2) (okNm3 g3) (okNm1 g3) (star_cons s1) (star_plain s2)) fun σ H Q h => tOpL (w := wOf X ca W) pr h
          · exact PE.imp (pe_callTy cr g1 g2 bt (pa_list hm c2) (okNm3 g3) (okNm1 g3) (star_cons s1) (star_plain s2)) fun σ H Q h => tOpL (w := wOf X ca W) pr h
        · exact pe_failY
    · exact pe_failY
end
end Yv

set_option Elab.async false
set_option linter.all false
set_option maxRecDepth 100000
set_option maxHeartbeats 4000000
/-! I25: soundness of den -/
namespace Yv
open PySem L2 PySem.Spec PyProof.Rows
section
variable {CX : CXT} {X : Cx} {ca : Nat → Addr} {W : WX} {C : Ct}
theorem if_fail {α : Type} {c : Bool} {a b : α} {P : α → Prop} (h1 : c = true → P a) (h2 : P b) : P (if c = true then a else b) := by
  cases c with
  | true => exact h1 rfl
  | false => exact h2
theorem pe_if {w : Wc} {e : Expr} {c : Bool} {a b : Mn A} (h1 : c = true → PE X e (tA w a)) (h2 : PE X e (tA w b)) : PE X e (tA w (if c = true then a else b)) := if_fail (P := fun x => PE X e (tA w x)) h1 h2
theorem pi_if {w : Wc} {t e : Expr} {c : Bool} {a b : Mn (List D)} (h1 : c = true → PI X t e (tI w a)) (h2 : PI X t e (tI w b)) : PI X t e (tI w (if c = true then a else b)) := if_fail (P := fun x => PI X t e (tI w x)) h1 h2
theorem rangeArg_some {f : Str} {args es : List Expr} (h : rangeArg C f args = some es) : ∃ p pos, args = [.Call (.Name "range" p) es [] pos] ∧ C.blt "range" = true ∧ noStar es = true := by
  unfold rangeArg at h
  split at h
  · rename_i g p es' pos
    rcases ite_some h with ⟨_, h⟩ | ⟨_, h⟩
    · cases h
    · rcases ite_some h with ⟨c, h⟩ | ⟨_, h⟩
      · cases h
        simp only [Bool.and_eq_true, decide_eq_true_eq] at c
        obtain ⟨⟨rfl, c2⟩, c3⟩ := c
        exact ⟨p, pos, rfl, c2, c3⟩
      · cases h
  · cases h
theorem setArg_some {args : List Expr} {e : Expr} (h : setArg C args = some e) : ∃ p pos, args = [.Call (.Name "set" p) [e] [] pos] ∧ C.blt "set" = true ∧ isStar e = false := by
  unfold setArg at h
  split at h
  · rename_i g p e' pos
    rcases ite_some h with ⟨c, h⟩ | ⟨_, h⟩
    · cases h
      simp only [Bool.and_eq_true, decide_eq_true_eq, Bool.not_eq_true'] at c
      obtain ⟨⟨rfl, c2⟩, c3⟩ := c
      exact ⟨p, pos, rfl, c2, c3⟩
    · cases h
  · cases h
theorem form_sound (o : XO CX X ca W C) {m : Expr → Mn A} (hm : ∀ e, PE X e (tA (wOf X ca W) (m e))) {f : Str} {args : List Expr} {kws : List Keyword} {p pos : Pos} : PE X (.Call (.Name f p) args kws pos) (tA (wOf X ca W) (denForm m C f args kws)) := by
  unfold denForm
  refine pe_if (fun c => ?_) (pe_if (fun c => ?_) (pe_if (fun c => ?_) (call_sound o hm)))
  · simp only [Bool.and_eq_true, decide_eq_true_eq] at c
    obtain ⟨⟨⟨rfl, c2⟩, c3⟩, c4⟩ := c
    cases (List.isEmpty_iff.mp c2)
    obtain ⟨g1, g2, g3⟩ := blt3 o c3
    cases q : rangeArg C "tuple" args with
    | none => rw [q] at c4; cases c4
    | some es =>
      obtain ⟨p', pos', rfl, b1, b2⟩ := rangeArg_some q
      obtain ⟨r1, r2, r3⟩ := blt3 o b1
      match es, b2 with
      | [], _ => exact pe_failY
      | [a], b2 =>
        obtain ⟨s1, _⟩ := noStar_cons b2
        exact PE.imp (pe_tupRgY o.calm g1 g2 (prg_1 r1 r2 (hm a) (star_cons s1)) rfl) fun σ H Q h => tOp1 (w := wOf X ca W) pr_rgT1 h
      | [a, b], b2 =>
        obtain ⟨s1, s2⟩ := noStar_cons b2
        obtain ⟨s3, _⟩ := noStar_cons s2
        exact PE.imp (pe_tupRgY o.calm g1 g2 (prg_2 r1 r2 (hm a) (hm b) (star_cons s1) (star_cons s3) (star_plain s2)) rfl) fun σ H Q h => by
          have := tOp2 (w := wOf X ca W) pr_rgT2 h
          exact tA_mono (fun x H1 h1 => tA_mono (fun y H2 ⟨i, j, e1, e2, q1, q2⟩ => ⟨i, j, e1, e2, q1, q2⟩) h1) this
      | _ :: _ :: _ :: _, _ => exact pe_failY
  · simp only [Bool.and_eq_true, decide_eq_true_eq] at c
    obtain ⟨⟨⟨rfl, c2⟩, c3⟩, c4⟩ := c
    cases (List.isEmpty_iff.mp c2)
    obtain ⟨g1, g2, g3⟩ := blt3 o c3
    cases q : rangeArg C "list" args with
    | none => rw [q] at c4; cases c4
    | some es =>
      obtain ⟨p', pos', rfl, b1, b2⟩ := rangeArg_some q
      obtain ⟨r1, r2, r3⟩ := blt3 o b1
      match es, b2 with
      | [], _ => exact pe_failY
      | [a], b2 =>
        obtain ⟨s1, _⟩ := noStar_cons b2
        exact PE.imp (pe_listRg o.calm g1 g2 (prg_1 r1 r2 (hm a) (star_cons s1)) rfl) fun σ H Q h => tOp1 (w := wOf X ca W) pr_rgL1 h
      | [a, b], b2 =>
        obtain ⟨s1, s2⟩ := noStar_cons b2
        obtain ⟨s3, _⟩ := noStar_cons s2
        exact PE.imp (pe_listRg o.calm g1 g2 (prg_2 r1 r2 (hm a) (hm b) (star_cons s1) (star_cons s3) (star_plain s2)) rfl) fun σ H Q h => by
          have := tOp2 (w := wOf X ca W) pr_rgL2 h
          exact tA_mono (fun x H1 h1 => tA_mono (fun y H2 ⟨i, j, e1, e2, q1, q2⟩ => ⟨i, j, e1, e2, q1, q2⟩) h1) this
      | _ :: _ :: _ :: _, _ => exact pe_failY
  · simp only [Bool.and_eq_true, decide_eq_true_eq] at c
    obtain ⟨⟨⟨rfl, c2⟩, c3⟩, c4⟩ := c
    cases (List.isEmpty_iff.mp c2)
    obtain ⟨g1, g2, g3⟩ := blt3 o c3
    cases q : setArg C args with
    | none => rw [q] at c4; cases c4
    | some e =>
      obtain ⟨p', pos', rfl, b1, b2⟩ := setArg_some q
      obtain ⟨r1, r2, r3⟩ := blt3 o b1
      exact PE.imp (pe_setLen g1 g2 r1 r2 (hm e) o.calm (star_cons b2)) fun σ H Q h => tOp1 (w := wOf X ca W) pr_setLen h
theorem meth_sound (o : XO CX X ca W C) {m : Expr → Mn A} (hm : ∀ e, PE X e (tA (wOf X ca W) (m e))) {r : Expr} {nm : Str} {apos cpos : Pos} {args : List Expr} : PE X (.Call (.Attribute r nm apos) args [] cpos) (tA (wOf X ca W) (denMeth m r nm apos args cpos)) := by
  have base : (∀ a b c d, r ≠ .Call a b c d) → attributeBase r nm X.env (eval r X.env) = eval r X.env := by
    intro h
    cases r with
    | Call a b c d => exact absurd rfl (h a b c d)
    | _ => rfl
  have main : (∀ a b c d, r ≠ .Call a b c d) → PE X (.Call (.Attribute r nm apos) args [] cpos) (tA (wOf X ca W) (if methOk args apos cpos then match mtP nm with
      | some (T1, T2, P1, P2) => mMe T1 T2 P1 P2 (m r) (mL (args.map fun e => if freezes nm then mFz (m e) else m e))
      | none => mFail
    else mFail)) := by
    intro hr
    refine pe_if (fun c => ?_) pe_failY
    simp only [methOk, Bool.and_eq_true, decide_eq_true_eq] at c
    obtain ⟨⟨c1, c2⟩, c3⟩ := c
    cases q : mtP nm with
    | none => exact pe_failY
    | some z =>
      obtain ⟨T1, T2, P1, P2⟩ := z
      obtain ⟨id1, id2, r1, r2, ok1, ok2, p1, p2⟩ := mtP_ok (X := X) o.un q
      have ha : ∀ e, PE X e (tA (wOf X ca W) (if freezes nm then mFz (m e) else m e)) := fun e => pe_if (fun _ => PE.imp (hm e) fun σ H Q h => tA_fz h) (hm e)
      cases args with
      | nil =>
        refine PE.imp (pe_bmY0 ok1 ok2 (hm r) (base hr) c3) fun σ H Q h => ?_
        have t := tMe (w := wOf X ca W) p1 p2 h
        exact tA_mono (fun x H1 h1 => h1.imp (fun ⟨a, b⟩ => ⟨a, tAs_nil b⟩) fun ⟨a, b⟩ => ⟨a, tAs_nil b⟩) t
      | cons e es =>
        obtain ⟨s1, s2⟩ := noStar_cons c1
        refine PE.imp (pe_bmY ok1 ok2 (hm r) (pa_list ha c1) (base hr) ?_ c3 (star_cons s1) (star_plain s2)) fun σ H Q h => tMe (w := wOf X ca W) p1 p2 h
        have pl := star_plain (env := X.env) (pos := cpos) c1
        have all1 : (backTo cpos (starEach (e :: es) X.env)).all (fun x => !x.1) = true := by
          rw [List.all_eq_true]
          intro x hx
          have := List.any_eq_false.mp pl x hx
          simpa using this
        rw [all1]
        show (true && true && decide ((e :: es).length + ([] : List Keyword).length + 0 < 30)) = true
        simp only [List.length_cons, List.length_nil] at c2 ⊢
        simp; omega
  unfold denMeth
  cases r with
  | Call a b c d => exact pe_failY
  | _ => exact main (fun a b c d z => by cases z)
theorem fold_ok {it : Expr} (h : isSetE it = false) : ∀ x, foldedSetIterable it X.env x = pure x := by
  intro x
  cases it <;> first | rfl | (simp [isSetE] at h)
theorem iter_sound (o : XO CX X ca W C) {m : Expr → Mn A} (hm : ∀ e, PE X e (tA (wOf X ca W) (m e))) {tg it : Expr} : PI X tg it (tI (wOf X ca W) (denIter m C tg it)) := by
  have plain : ∀ it, PI X tg it (tI (wOf X ca W) (mItV (m it))) := fun it => PI.imp (pi_seqY (hm it)) fun σ H R h => tItV h
  unfold denIter
  split
  · rename_i f p args kws pos
    refine pi_if (fun c => ?_) (pi_if (fun c => ?_) (pi_if (fun c => ?_) (plain _)))
    · simp only [Bool.and_eq_true, decide_eq_true_eq] at c
      obtain ⟨⟨⟨rfl, c2⟩, c3⟩, c4⟩ := c
      cases (List.isEmpty_iff.mp c3)
      obtain ⟨g1, g2, g3⟩ := blt3 o c2
      match args, c4 with
      | [], _ => exact pi_failY
      | [a], c4 =>
        obtain ⟨s1, _⟩ := noStar_cons c4
        exact PI.imp (pi_range1 g1 g2 (pa_list (es := [a]) hm c4) (star_cons s1)) fun σ H R h => tItR1 (w := wOf X ca W) h
      | [a, b], c4 =>
        obtain ⟨s1, s2⟩ := noStar_cons c4
        obtain ⟨s3, _⟩ := noStar_cons s2
        refine PI.imp (pi_range2 g1 g2 (pa_list (es := [a, b]) hm c4) ?_ (star_cons s3)) fun σ H R h => tItR2 (w := wOf X ca W) h
        rw [star_cons s1, star_cons s3]; rfl
      | _ :: _ :: _ :: _, _ => exact pi_failY
    · simp only [Bool.and_eq_true, decide_eq_true_eq] at c
      obtain ⟨⟨⟨⟨rfl, c2⟩, c3⟩, c4⟩, c5⟩ := c
      cases (List.isEmpty_iff.mp c3)
      obtain ⟨g1, g2, g3⟩ := blt3 o c2
      cases tg with
      | Tuple elts kk tpos =>
        match args, c4 with
        | [], _ => exact pi_failY
        | [a], c4 =>
          obtain ⟨s1, _⟩ := noStar_cons c4
          exact PI.imp (pi_enumY g1 g2 (pa_cons (hm a) pa_nil (star_cons s1)) (star_cons s1)) fun σ H R h => tItE (w := wOf X ca W) (fun Q h => h) h
        | _ :: _ :: _, _ => exact pi_failY
      | _ => simp [isTupE] at c5
    · simp only [Bool.and_eq_true, decide_eq_true_eq] at c
      obtain ⟨⟨⟨⟨rfl, c2⟩, c3⟩, c4⟩, c5⟩ := c
      cases (List.isEmpty_iff.mp c3)
      obtain ⟨g1, g2, g3⟩ := blt3 o c2
      cases tg with
      | Tuple elts kk tpos =>
        match args, c4 with
        | [], _ => exact pi_failY
        | [a], _ => exact pi_failY
        | [a, b], c4 =>
          obtain ⟨s1, s2⟩ := noStar_cons c4
          obtain ⟨s3, _⟩ := noStar_cons s2
          exact PI.imp (RZ.pi_zipA g1 g2 (pa_cons (hm a) (pa_cons (hm b) pa_nil (star_cons s3)) (star_cons s1)) (star_cons s1) (star_plain s2)) fun σ H R h => tItZ (w := wOf X ca W) (fun σ H Q h => h) (fun σ H Q h => h) h
        | _ :: _ :: _ :: _, _ => exact pi_failY
      | _ => simp [isTupE] at c5
  · exact pi_failY
  · exact plain _
theorem part_sound {m : Expr → Mn A} (hm : ∀ e, PE X e (tA (wOf X ca W) (m e))) (x : Option Expr) : PO X x (tP (wOf X ca W) (denPart m x)) := by
  cases x with
  | none => exact PO.imp po_none fun σ H Q h => tPart0 h
  | some e => exact PO.imp (po_some (hm e)) fun σ H Q h => tPart1 h
theorem test_sound {m : Expr → Mn A} (hm : ∀ e, PE X e (tA (wOf X ca W) (m e))) (hc : ∀ a op b pos, PT X (.Compare a op b pos) (tT (wOf X ca W) (mBl (m (.Compare a op b pos))))) : ∀ (n : Nat) (e : Expr), PT X e (tT (wOf X ca W) (denT m n e))
  | 0, _ => pt_failY
  | n + 1, e => by
    unfold denT
    split
    · exact PT.imp (pt_not (test_sound hm hc n _)) fun σ H Q h => tNot' h
    · exact (pw_ands fun e => test_sound hm hc n e).pt
    · exact (pw_ors fun e => test_sound hm hc n e).pt
    · exact hc _ _ _ _
    · exact pt_failY
    · rename_i h1 h2 h3 h4 h5
      refine PT.imp (pt_truth (hm e) ?_) fun σ H Q h => tTru (w := wOf X ca W) (fun Q h => h) h
      intro whole
      cases e with
      | UnaryOp op x p => cases op <;> first | rfl | exact absurd rfl (h1 _ _)
      | BoolOp op es p => cases op <;> first | exact absurd rfl (h2 _ _) | exact absurd rfl (h3 _ _)
      | Compare a b c d => exact absurd rfl (h4 _ _ _ _)
      | IfExp a b c d => exact absurd rfl (h5 _ _ _ _)
      | _ => rfl
end
end Yv

set_option Elab.async false
set_option linter.all false
set_option maxRecDepth 100000
set_option maxHeartbeats 4000000
/-! I26: soundness of den, of denS -/
namespace Yv
open PySem L2 PySem.Spec PyProof.Rows
section
variable {CX : CXT} {ca : Nat → Addr}
theorem tT_blfail {w : Wc} {σ : L2.St} {H : Hp} {Q : Bool → Hp → Prop} (h : tT w (mBl mFail) σ H Q) : False := by obtain ⟨Z, δ, F, e, h⟩ := h; exact h
theorem constD_ok {X : Cx} {w : Wc} {c : Const} {d : D} (h : constD c = some d) {k : Nat} {p : Pos} : PE X (.Constant c k p) (tA w (mC d)) := by
  cases c <;> first | (cases h; done) | skip
  · cases h; exact PE.imp pe_non fun σ H Q h => tConst (d := .non) (fun _ _ => ⟨rfl, rfl⟩) h
  · cases h; exact PE.imp pe_bl fun σ H Q h => tConst (d := .bl _) (fun _ _ => ⟨rfl, rfl⟩) h
  · cases h; exact PE.imp pe_int fun σ H Q h => tConst (d := .int _) (fun _ _ => ⟨rfl, rfl⟩) h
  · cases h; exact PE.imp pe_str fun σ H Q h => tConst (d := .str _) (fun _ _ => ⟨rfl, rfl⟩) h
theorem plain_ix {i : Expr} (h : isSlice i = false) : PlainIx i := by
  intro o v
  cases i <;> first | rfl | (simp [isSlice] at h)
/-- both looks at an expression -/
def Snd (CX : CXT) (ca : Nat → Addr) (n : Nat) : Prop := ∀ (C : Ct) (X : Cx) (W : WX), XO CX X ca W C → (∀ e, PE X e (tA (wOf X ca W) (den n C e))) ∧ ∀ a op b pos, PT X (.Compare a op b pos) (tT (wOf X ca W) (mBl (den n C (.Compare a op b pos))))
theorem Snd.test {n : Nat} (s : Snd CX ca n) {C : Ct} {X : Cx} {W : WX} (o : XO CX X ca W C) (k : Nat) (e : Expr) : PT X e (tT (wOf X ca W) (denT (den n C) k e)) := test_sound (s C X W o).1 (s C X W o).2 k e
theorem name_sound {n : Nat} {C : Ct} {X : Cx} {W : WX} (o : XO CX X ca W C) (x : Str) (p : Pos) : PE X (.Name x p) (tA (wOf X ca W) (den (n + 1) C (.Name x p))) := by
  unfold den
  refine pe_if (fun c => ?_) pe_failY
  cases q : C.slot x with
  | some i =>
    obtain ⟨h1, h2⟩ := o.vis q
    exact PE.imp (pe_var h1 h2 (okNm1 c) (okNm2 c)) fun σ H Q h => tVar' h
  | none =>
    dsimp only
    refine pe_if (fun g => ?_) pe_failY
    cases q2 : C.gv x with
    | some d =>
      obtain ⟨v, u, h1, h2, h3⟩ := o.gv x d q2
      exact PE.imp (pe_glob (o.gl g) h1 h2 (okNm1 c)) fun σ H Q h => tConst (w := wOf X ca W) h3 h
    | none =>
      dsimp only
      refine pe_if (fun b => ?_) pe_failY
      cases q3 : tyNm x with
      | none => exact pe_failY
      | some T => exact PE.imp (pe_bltn (v := .ty T) (o.gl g) (o.bl x b) (tyNm_ok q3) rfl (okNm3 c) (okNm1 c)) fun σ H Q h => tConst (d := .ty T) (fun _ _ => ⟨rfl, rfl⟩) h
theorem cmp_sound {n : Nat} (s : Snd CX ca n) {C : Ct} {X : Cx} {W : WX} (o : XO CX X ca W C) (a : Expr) (ops : List CmpOp) (bs : List Expr) (pos : Pos) :
    PE X (.Compare a ops bs pos) (tA (wOf X ca W) (den (n + 1) C (.Compare a ops bs pos))) ∧ PT X (.Compare a ops bs pos) (tT (wOf X ca W) (mBl (den (n + 1) C (.Compare a ops bs pos)))) := by
  have he := (s C X W o).1
  match ops, bs with
  | [op], [b] =>
    have e : den (n + 1) C (.Compare a [op] [b] pos) = if behindInMarks op b then mFail else mOp2 (cmpP op) (den n C a) (den n C b) := rfl
    rw [e]
    cases hm : behindInMarks op b with
    | true => exact ⟨pe_failY, ⟨fun _ _ _ _ _ _ h => (tT_blfail h).elim⟩⟩
    | false =>
      obtain ⟨r, h1, h2⟩ := cmp_ok (X := X) o.un op
      refine ⟨PE.imp (pe_cmpR h1 (he a) (he b) hm) fun σ H Q h => tOp2 (w := wOf X ca W) h2 h, PT.imp (pt_cmpR h1 (he a) (he b) hm) fun σ H Q h => tTest' (w := wOf X ca W) (m := mOp2 (cmpP op) (den n C a) (den n C b)) (fun Q h => tOp2 (w := wOf X ca W) h2 h) h⟩
  | [op, op'], [b, c] =>
    have e : den (n + 1) C (.Compare a [op, op'] [b, c] pos) = if lastMarks [op, op'] [b, c] then mFail else mCh (cmpP op) (cmpP op') (den n C a) (den n C b) (den n C c) := rfl
    rw [e]
    cases hm : lastMarks [op, op'] [b, c] with
    | true => exact ⟨pe_failY, ⟨fun _ _ _ _ _ _ h => (tT_blfail h).elim⟩⟩
    | false =>
      obtain ⟨r, h1, h2⟩ := cmp_ok (X := X) o.un op
      obtain ⟨r', h3, h4⟩ := cmp_ok (X := X) o.un op'
      refine ⟨PE.imp (pe_chain h1 h3 (he a) (he b) (he c) hm) fun σ H Q h => tCh' (w := wOf X ca W) h2 h4 h, PT.imp (pt_chain h1 h3 (he a) (he b) (he c) hm) fun σ H Q h => tTest' (w := wOf X ca W) (m := mCh (cmpP op) (cmpP op') (den n C a) (den n C b) (den n C c)) (fun Q h => tCh' (w := wOf X ca W) h2 h4 h) h⟩
  | [], _ => exact ⟨pe_failY, ⟨fun _ _ _ _ _ _ h => (tT_blfail h).elim⟩⟩
  | [_], [] => exact ⟨pe_failY, ⟨fun _ _ _ _ _ _ h => (tT_blfail h).elim⟩⟩
  | [_], _ :: _ :: _ => exact ⟨pe_failY, ⟨fun _ _ _ _ _ _ h => (tT_blfail h).elim⟩⟩
  | [_, _], [] => exact ⟨pe_failY, ⟨fun _ _ _ _ _ _ h => (tT_blfail h).elim⟩⟩
  | [_, _], [_] => exact ⟨pe_failY, ⟨fun _ _ _ _ _ _ h => (tT_blfail h).elim⟩⟩
  | [_, _], _ :: _ :: _ :: _ => exact ⟨pe_failY, ⟨fun _ _ _ _ _ _ h => (tT_blfail h).elim⟩⟩
  | _ :: _ :: _ :: _, _ => exact ⟨pe_failY, ⟨fun _ _ _ _ _ _ h => (tT_blfail h).elim⟩⟩
/-- a comprehension: what stands in its block -/
theorem lc_parts {n : Nat} (s : Snd CX ca n) {C : Ct} {X : Cx} {W : WX} (o : XO CX X ca W C) {elt tg it : Expr} {scope : Scope} {t : Tg} (ht : tgD n (C.blk scope) tg = some t) :
    (∀ (s : Shared) (H : Hp) (c : Addr) (cl : List (Str × Addr)) (fp : List Addr), PG (X.blk s H scope (compEnvC scope cl c X.env) fp) tg (fun v σ H Q => ∃ P, tG (wOf X ca W).nox P t v σ H Q)) ∧
    (∀ (s : Shared) (H : Hp) (c : Addr) (cl : List (Str × Addr)) (fp : List Addr), PE (X.blk s H scope (compEnvC scope cl c X.env) fp) elt (tA (wOf X ca W).nox (den n (C.blk scope) elt))) ∧
    ∀ (e : Expr) (s : Shared) (H : Hp) (c : Addr) (cl : List (Str × Addr)) (fp : List Addr), PT (X.blk s H scope (compEnvC scope cl c X.env) fp) e (tT (wOf X ca W).nox (denT (den n (C.blk scope)) n e)) := by
  refine ⟨fun s H c cl fp => ⟨fun p s' σ H' v u Q I r ⟨P, q⟩ => ?_⟩, fun s' H c cl fp => ?_, fun e s' H c cl fp => ?_⟩
  · exact (tg_sound (o.blk s H scope cl c fp) P n tg t ht).run p s' σ H' v u Q I r q
  · exact (s _ _ _ (o.blk s' H scope cl c fp)).1 elt
  · exact s.test (o.blk s' H scope cl c fp) n e
theorem den_sound : ∀ n, Snd CX ca n
  | 0 => fun C X W o => ⟨fun e => pe_failY, fun _ _ _ _ => ⟨fun _ _ _ _ _ _ h => (tT_blfail h).elim⟩⟩
  | n + 1 => fun C X W o => by
    have ih : Snd CX ca n := den_sound n
    have he := (ih C X W o).1
    refine ⟨fun e => ?_, fun a op b pos => (cmp_sound ih o a op b pos).2⟩
    cases e with
    | Name x p => exact name_sound o x p
    | Compare a ops bs pos => exact (cmp_sound ih o a ops bs pos).1
    | Constant c k p =>
      show PE X _ (tA _ (match constD c with | some d => mC d | none => mFail))
      cases q : constD c with
      | none => exact pe_failY
      | some d => exact constD_ok q
    | UnaryOp op a p =>
      cases op with
      | USub => exact PE.imp (pe_un un_neg (he a)) fun σ H Q h => tOp1 (w := wOf X ca W) pr_neg h
      | Not => exact PE.imp (pe_not (he a)) fun σ H Q h => tNotV' h
      | Invert => exact pe_failY
      | UAdd => exact pe_failY
    | BinOp a op b p =>
      show PE X _ (tA _ (match opP op with | some P => mOp2 P (den n C a) (den n C b) | none => mFail))
      cases q : opP op with
      | none => exact pe_failY
      | some P =>
        obtain ⟨r, h1, h2⟩ := op_ok (X := X) q
        exact PE.imp (pe_op h1 (he a) (he b)) fun σ H Q h => tOp2 (w := wOf X ca W) h2 h
    | BoolOp op es p =>
      cases op with
      | And => exact pe_ands he
      | Or => exact pe_ors he
    | IfExp t a b p => exact PE.imp (pe_ifExp (ih.test o n t) (he a) (he b)) fun σ H Q h => tIf' h
    | List es p =>
      show PE X _ (tA _ (if noStar es then mLst (mL (es.map fun e => mFz (den n C e))) else mFail))
      refine pe_if (fun c => ?_) pe_failY
      exact PE.imp (pe_lst (pa_list (fun e => PE.imp (he e) fun σ H Q h => tA_fz h) c)) fun σ H Q h => tLst' h
    | Tuple es k p =>
      show PE X _ (tA _ (if noStar es then mTup (mL (es.map fun e => mFz (den n C e))) else mFail))
      refine pe_if (fun c => ?_) pe_failY
      exact PE.imp (pe_tupY (pa_list (fun e => PE.imp (he e) fun σ H Q h => tA_fz h) c)) fun σ H Q h => tTup' h
    | Dict ks vs p =>
      match ks, vs with
      | [], [] => exact PE.imp pe_dnewK fun σ H Q h => tDct0 h
      | [], _ :: _ => exact pe_failY
      | _ :: _, _ => exact pe_failY
    | Subscript a sl p =>
      have ix : isSlice sl = false → PE X (.Subscript a sl p) (tA (wOf X ca W) (mOp2 pIx (den n C a) (den n C sl))) := fun hs =>
        PE.imp (pe_ix (ix_all (X := X) (by have := o.un; omega)) (he a) (he sl) (plain_ix hs)) fun σ H Q h => tOp2 (w := wOf X ca W) pr_ix h
      cases sl with
      | Slice lo hi st p2 =>
        have cut : PE X (.Subscript a (.Slice lo hi none p2) p) (tA (wOf X ca W) (mSl (den n C a) (denPart (den n C) lo) (denPart (den n C) hi))) :=
          PE.imp (pe_slice sl_all (he a) (part_sound he lo) (part_sound he hi)) fun σ H Q h => tSl' (w := wOf X ca W) (fun Q σ H h => h) (fun Q σ H h => h) h
        cases st with
        | none => cases lo <;> cases hi <;> exact cut
        | some st =>
          cases lo with
          | some lo => exact pe_failY
          | none =>
            cases hi with
            | some hi => exact pe_failY
            | none =>
              cases st with
              | UnaryOp op x p3 =>
                cases op with
                | USub =>
                  cases x with
                  | Constant c k p4 =>
                    cases c with
                    | int i =>
                      by_cases hi : i = 1
                      · subst hi
                        exact PE.imp (pe_rev (he a)) fun σ H Q h => tOp1 (w := wOf X ca W) pr_rev h
                      · have e : den (n + 1) C (.Subscript a (.Slice none none (some (.UnaryOp .USub (.Constant (.int i) k p4) p3)) p2) p) = mFail := by
                          unfold den
                          split <;> first | rfl | skip
                          all_goals first | (rename_i h; cases h; exact absurd rfl hi) | skip
                          all_goals simp_all
                          all_goals (intro hs; obtain ⟨_, h, _⟩ := ‹_ ∧ _ ∧ _›; rw [← h] at hs; cases hs)
                        rw [e]; exact pe_failY
                    | _ => exact pe_failY
                  | _ => exact pe_failY
                | _ => exact pe_failY
              | _ => exact pe_failY
      | _ => exact ix rfl
    | ListComp elt gens scope p =>
      match gens with
      | [] => exact pe_failY
      | g1 :: g2 :: gs =>
        have e : den (n + 1) C (.ListComp elt (g1 :: g2 :: gs) scope p) = mFail := by
          unfold den
          split <;> first | rfl | skip
          all_goals simp_all
        rw [e]; exact pe_failY
      | [⟨tg, it, ifs, as⟩] =>
        by_cases ha : as = 0
        · subst ha
          show PE X _ (tA _ (if blkC C.N C.sc scope (ownOf C.N scope) && !isSetE it then match tgD n (C.blk scope) tg, ifs with
            | some t, [] => mLc (denIter (den n C) C tg it) t (fun δ => .ok true δ) (den n (C.blk scope) elt) ((ownOf C.N scope).map (·.2))
            | some t, [c] => mLc (denIter (den n C) C tg it) t (denT (den n (C.blk scope)) n c) (den n (C.blk scope) elt) ((ownOf C.N scope).map (·.2))
            | _, _ => mFail
          else mFail))
          refine pe_if (fun c => ?_) pe_failY
          simp only [Bool.and_eq_true, Bool.not_eq_true'] at c
          have bok : BlkOk X.N X.env.scope scope (ownOf C.N scope) := by rw [o.hN, o.sc]; exact blkOk_by c.1
          cases ht : tgD n (C.blk scope) tg with
          | none => exact pe_failY
          | some t =>
            obtain ⟨k1, k2, k3⟩ := lc_parts ih o (elt := elt) (it := it) ht
            match ifs with
            | [] =>
              refine PE.imp (pe_lc o.calm (by rw [o.hN]; exact o.nd) (iter_sound o he) bok k1 (fun _ _ _ _ _ => pts_nil) k2 (fold_ok c.2)) fun σ H Q h => ?_
              exact tLc' (w := wOf X ca W) (fun σ H R h => h) (fun P v σ H Q h => ⟨P, h⟩) (fun σ H Q h => tT_yes h) (fun σ H Q h => h) h
            | [cd] =>
              refine PE.imp (pe_lc o.calm (by rw [o.hN]; exact o.nd) (iter_sound o he) bok k1 (fun s H c cl fp => pts_one (k3 cd s H c cl fp)) k2 (fold_ok c.2)) fun σ H Q h => ?_
              exact tLc' (w := wOf X ca W) (fun σ H R h => h) (fun P v σ H Q h => ⟨P, h⟩) (fun σ H Q h => h) (fun σ H Q h => h) h
            | _ :: _ :: _ => exact pe_failY
        · have e : den (n + 1) C (.ListComp elt [⟨tg, it, ifs, as⟩] scope p) = mFail := by
            unfold den
            split <;> first | rfl | skip
            all_goals first | (rename_i h; cases h; exact absurd rfl ha) | skip
            all_goals simp_all
          rw [e]; exact pe_failY
    | Call f args kws pos =>
      cases f with
      | Name f p => exact form_sound o he
      | Attribute r m apos =>
        cases kws with
        | nil => exact meth_sound o he
        | cons _ _ => exact pe_failY
      | _ => exact pe_failY
    | _ => exact pe_failY
end
end Yv

set_option Elab.async false
set_option linter.all false
set_option maxRecDepth 100000
set_option maxHeartbeats 4000000
/-! I27: soundness of denS -/
namespace Yv
open PySem L2 PySem.Spec PyProof.Rows
section
variable {w : Wc} {P : List Nat} {DD : Ends} {σ : L2.St} {H : Hp}
theorem tPar' {is : List Nat} {ms : Mn (List A)} (h : tS w P (mPar P is ms) DD σ H) : tAs w ms σ H fun vs H1 => tGs w P (is.map Tg.nm) vs σ H1 DD.nx := by
  obtain ⟨Z, δ, F, e, h⟩ := h
  refine ⟨Z, δ, F, e, ?_⟩
  unfold mPar at h
  cases q : ms δ with
  | fail => rw [q] at h; exact h
  | exc x δ1 => rw [q] at h; exact fun cls dd Z' H' F' e' x' p' => h cls dd σ Z' H' F' e' x' p' .refl
  | ok as δ1 =>
    rw [q] at h
    simp only [R.toS_ok] at h
    intro vs Z1 H1 F1 Os e1 r1 t1 p1
    cases hd : allDt as with
    | none => rw [hd] at h; exact h.elim
    | some ds =>
      rw [hd] at h
      dsimp only at h
      refine ⟨Z1, δ1, F1, ds, Os.flatten, e1, r1.dts hd, t1, ?_⟩
      cases q2 : tgtL P (is.map Tg.nm) ds δ1 with
      | none => rw [q2] at h; exact h.elim
      | some δ2 =>
        rw [q2] at h
        exact fun σ' F2 e2 s k => h σ' Z1 H1 F2 e2 (p1.drop fun a z => s a z) k
end
section
variable {CX : CXT} {ca : Nat → Addr} {X : Cx} {W : WX} {C : Ct}
theorem swaps_plain {e : Expr} (h : isComp e = false) (t : Option Expr) (l : Nat) (env : Env) : swapsWith e t l env = pure false := by
  cases e <;> first | rfl | (simp [isComp] at h)
theorem blockK (o : XO CX X ca W C) (h : C.sc.kind = .function) : X.env.blockKind = .function := by
  unfold Env.blockKind
  rw [o.sc, h]
  rfl
theorem swapped_eq {ts vs : List Expr} {k k2 : Nat} {p p2 : Pos} {env : Env} : swappedStores [.Tuple ts k p] (.Tuple vs k2 p2) env =
    (if (!(ts.length == 2 || ts.length == 3) || vs.length != ts.length || env.blockKind != .function) = true then pure none
    else if (vs.any isStar) = true then pure none
    else if badNms ts (nmsAt env.kindOf ts) = true then pure none
    else if vs.all (foldedForSure 8) = true then pure none
    else if vs.all (constantsAlone 8) = true then unsupported "assign.tuple-of-constant-expressions:order-of-the-stores" >>= fun (_ : Unit) => pure (some (nmsAt env.kindOf ts))
    else pure (some (nmsAt env.kindOf ts))) := by rfl
theorem look_eq (o : XO CX X ca W C) : X.env.kindOf = C.lk := by
  funext id
  unfold Env.kindOf Ct.lk
  rw [o.sc]
theorem swapN_some (o : XO CX X ca W C) {ts vs : List Expr} {names : List Str} (h : swapN C ts vs = some names) {k k2 : Nat} {p p2 : Pos} : swappedStores [.Tuple ts k p] (.Tuple vs k2 p2) X.env = pure (some names) := by
  unfold swapN at h
  rw [swapped_eq, look_eq o]
  rcases ite_some h with ⟨_, h⟩ | ⟨c1, h⟩
  · cases h
  have ck : C.sc.kind = .function := by
    by_cases q : C.sc.kind = .function
    · exact q
    · exfalso; apply c1; simp [q]
  rw [ck] at c1
  rw [blockK o ck, if_neg c1]
  rcases ite_some h with ⟨_, h⟩ | ⟨c2, h⟩
  · cases h
  rw [if_neg c2]
  rcases ite_some h with ⟨_, h⟩ | ⟨c3, h⟩
  · cases h
  rw [if_neg c3]
  rcases ite_some h with ⟨_, h⟩ | ⟨c4, h⟩
  · cases h
  rw [if_neg c4]
  rcases ite_some h with ⟨_, h⟩ | ⟨c5, h⟩
  · cases h
  rw [if_neg c5]
  cases h
  rfl
theorem noSwap_ok (o : XO CX X ca W C) {ts vs : List Expr} (h : noSwap C ts vs = true) {k k2 : Nat} {p p2 : Pos} : swappedStores [.Tuple ts k p] (.Tuple vs k2 p2) X.env = pure none := by
  unfold noSwap at h
  rw [swapped_eq, look_eq o]
  by_cases c0 : (!(ts.length == 2 || ts.length == 3) || vs.length != ts.length) = true
  · rw [if_pos (by rw [c0]; rfl)]
  rw [if_neg c0] at h
  by_cases ck : C.sc.kind = .function
  rotate_left
  · rw [if_pos (by simp [ck])] at h; cases h
  rw [if_neg (by simp [ck])] at h
  rw [blockK o ck]
  have c0' : (!(ts.length == 2 || ts.length == 3) || vs.length != ts.length) = false := by simpa using c0
  rw [if_neg (by rw [c0']; simp)]
  by_cases c2 : (vs.any isStar) = true
  · rw [if_pos c2]
  rw [if_neg c2] at h ⊢
  by_cases c3 : badNms ts (nmsAt C.lk ts) = true
  · rw [if_pos c3]
  rw [if_neg c3] at h
  rw [if_neg c3, if_pos h]
theorem filterMap_full {α β : Type} {f : α → Option β} : ∀ {l : List α}, (l.filterMap f).length = l.length → l.map f = (l.filterMap f).map some
  | [], _ => rfl
  | a :: l, h => by
    have le : (l.filterMap f).length ≤ l.length := List.length_filterMap_le f l
    cases q : f a with
    | none => rw [List.filterMap_cons_none q, List.length_cons] at h; omega
    | some b =>
      rw [List.filterMap_cons_some q] at h ⊢
      rw [List.map_cons, List.map_cons, q, filterMap_full (by simpa using h)]
/-- stores from the right: names, places -/
theorem swapN_shape {ts vs : List Expr} {names : List Str} (h : swapN C ts vs = some names) : (ts.length = 2 ∨ ts.length = 3) ∧ vs.length = ts.length ∧ ∃ l, ts.map (nmAt C.lk l) = names.map some := by
  unfold swapN at h
  rcases ite_some h with ⟨_, h⟩ | ⟨c1, h⟩
  · cases h
  rcases ite_some h with ⟨_, h⟩ | ⟨c2, h⟩
  · cases h
  rcases ite_some h with ⟨_, h⟩ | ⟨c3, h⟩
  · cases h
  rcases ite_some h with ⟨_, h⟩ | ⟨c4, h⟩
  · cases h
  rcases ite_some h with ⟨_, h⟩ | ⟨c5, h⟩
  · cases h
  cases h
  simp only [Bool.or_eq_true, Bool.not_eq_true', bne_iff_ne, ne_eq, not_or, Bool.or_eq_false_iff, beq_eq_false_iff_ne, Decidable.not_not] at c1
  unfold badNms at c3
  simp only [Bool.or_eq_true, bne_iff_ne, ne_eq, not_or, Decidable.not_not] at c3
  exact ⟨by omega, c1.1.2, _, filterMap_full c3.1⟩
theorem nmAt_some {look : Str → Option NameKind} {l : Nat} {e : Expr} {x : Str} (h : nmAt look l e = some x) : ∃ p, e = .Name x p ∧ look x = some .local := by
  unfold nmAt at h
  split at h
  · rename_i id pos
    rcases ite_some h with ⟨c, h⟩ | ⟨_, h⟩
    · cases h
      simp only [Bool.and_eq_true, beq_iff_eq] at c
      exact ⟨pos, rfl, c.1⟩
    · cases h
  · cases h
theorem findN_inj {x y : Str} {N : List Str} {i : Nat} (h1 : findN x N = some i) (h2 : findN y N = some i) : x = y := by
  have a := findN_some h1
  have b := findN_some h2
  rw [a] at b; cases b; rfl
theorem slot_inj {x y : Str} {i : Nat} (h1 : C.slot x = some i) (h2 : C.slot y = some i) : x = y := by
  unfold Ct.slot at h1 h2
  rcases ite_some h1 with ⟨_, h1⟩ | ⟨_, h1⟩
  · rcases ite_some h2 with ⟨_, h2⟩ | ⟨_, h2⟩
    · exact findN_inj h1 h2
    · cases h2
  · cases h1
theorem par_sound (o : XO CX X ca W C) {m : Expr → Mn A} (hm : ∀ e, PE X e (tA (wOf X ca W) (m e))) {ts vs : List Expr} {names : List Str} (hs : noStar vs = true) (h : swapN C ts vs = some names) (nd : names.Nodup) {is : List Nat} (hi : names.mapM C.slot = some is) {P : List Nat} {k k2 : Nat} {p p2 pos : Pos} :
    PS X (.Assign [.Tuple ts k p] (.Tuple vs k2 p2) pos) (tS (wOf X ca W) P (mPar P is (mL (vs.map fun v => mDt (mVal (m v)))))) := by
  obtain ⟨h1, h2, l, h3⟩ := swapN_shape h
  have sw := swapN_some o h (k := k) (k2 := k2) (p := p) (p2 := p2)
  have lk : ∀ {x : Str}, C.lk x = some .local → X.env.scope.names.lookup x = some .local := fun {x} q => by rw [o.sc]; exact q
  have ha := pa_list (X := X) (w := wOf X ca W) (m := fun v => mDt (mVal (m v))) (fun e => PE.imp (hm e) fun σ H Q h => tA_val (tE_dt h)) hs
  have slot : ∀ {x : Str} {i : Nat}, C.slot x = some i → X.N[i]? = some x := fun q => (o.vis q).1
  match ts, vs, names, h1, h2, h3, nd, hi, sw, ha with
  | [], _, _, h1, _, _, _, _, _, _ => simp at h1
  | [t1, t2], [a, b], [x, y], _, _, h3, nd, hi, sw, ha =>
    simp only [List.map_cons, List.map_nil, List.cons.injEq, and_true] at h3
    obtain ⟨p1, rfl, l1⟩ := nmAt_some h3.1
    obtain ⟨p2', rfl, l2⟩ := nmAt_some h3.2
    obtain ⟨i, js1, e1, hj1, rfl⟩ := mapM_cons hi
    obtain ⟨j, js2, e2, hj2, rfl⟩ := mapM_cons hj1
    cases hj2
    have hxy : x ≠ y := by simpa using nd
    have hij : i ≠ j := fun e => hxy (slot_inj e1 (by rw [e]; exact e2))
    refine PS.imp (ps_par o.calm (by rw [o.hN]; exact o.nd) (slot e1) (slot e2) hij (lk l1) (lk l2) ha sw rfl) fun D σ H h => ?_
    have t := tPar' h
    obtain ⟨Z, δ, F, e, t⟩ := t
    refine ⟨Z, δ, F, e, ?_⟩
    revert t
    cases (mL (List.map (fun v => mDt (mVal (m v))) [a, b])) δ with
    | fail => exact id
    | exc x' δ1 => exact id
    | ok as δ1 =>
      intro t vs' Z1 H1 F1 Os r1 r2 r3 r4
      have g := t vs' Z1 H1 F1 Os r1 r2 r3 r4
      obtain ⟨v, ra, ea, ga⟩ := tGs_cons g
      obtain ⟨v2, rb, eb, gb⟩ := tGs_cons (tG_name ga)
      obtain ⟨ec, gc⟩ := tGs_nil (tG_name gb)
      exact ⟨v, v2, by rw [ea, eb, ec], gc⟩
  | [t1, t2, t3], [a, b, c], [x, y, z], _, _, h3, nd, hi, sw, ha =>
    simp only [List.map_cons, List.map_nil, List.cons.injEq, and_true] at h3
    obtain ⟨p1, rfl, l1⟩ := nmAt_some h3.1
    obtain ⟨p2', rfl, l2⟩ := nmAt_some h3.2.1
    obtain ⟨p3', rfl, l3⟩ := nmAt_some h3.2.2
    obtain ⟨i, js1, e1, hj1, rfl⟩ := mapM_cons hi
    obtain ⟨j, js2, e2, hj2, rfl⟩ := mapM_cons hj1
    obtain ⟨n, js3, e3, hj3, rfl⟩ := mapM_cons hj2
    cases hj3
    have hxy : (x ≠ y ∧ x ≠ z) ∧ y ≠ z := by simpa using nd
    have hij : i ≠ j := fun e => hxy.1.1 (slot_inj e1 (by rw [e]; exact e2))
    have hin : i ≠ n := fun e => hxy.1.2 (slot_inj e1 (by rw [e]; exact e3))
    have hjn : j ≠ n := fun e => hxy.2 (slot_inj e2 (by rw [e]; exact e3))
    refine PS.imp (ps_par3 o.calm (by rw [o.hN]; exact o.nd) (slot e1) (slot e2) (slot e3) hij hin hjn (lk l1) (lk l2) (lk l3) ha sw rfl) fun D σ H h => ?_
    have t := tPar' h
    obtain ⟨Z, δ, F, e, t⟩ := t
    refine ⟨Z, δ, F, e, ?_⟩
    revert t
    cases (mL (List.map (fun v => mDt (mVal (m v))) [a, b, c])) δ with
    | fail => exact id
    | exc x' δ1 => exact id
    | ok as δ1 =>
      intro t vs' Z1 H1 F1 Os r1 r2 r3 r4
      have g := t vs' Z1 H1 F1 Os r1 r2 r3 r4
      obtain ⟨v, ra, ea, ga⟩ := tGs_cons g
      obtain ⟨v2, rb, eb, gb⟩ := tGs_cons (tG_name ga)
      obtain ⟨v3, rc, ec, gc⟩ := tGs_cons (tG_name gb)
      obtain ⟨ed, gd⟩ := tGs_nil (tG_name gc)
      exact ⟨v, v2, v3, by rw [ea, eb, ec, ed], gd⟩
  | [_], _, _, h1, _, _, _, _, _, _ => simp at h1
  | _ :: _ :: _ :: _ :: _, _, _, h1, _, _, _, _, _, _ => simp at h1
  | [_, _], [], _, _, h2, _, _, _, _, _ => simp at h2
  | [_, _], [_], _, _, h2, _, _, _, _, _ => simp at h2
  | [_, _], _ :: _ :: _ :: _, _, _, h2, _, _, _, _, _ => simp at h2
  | [_, _], [_, _], [], _, _, h3, _, _, _, _ => simp at h3
  | [_, _], [_, _], [_], _, _, h3, _, _, _, _ => simp at h3
  | [_, _], [_, _], _ :: _ :: _ :: _, _, _, h3, _, _, _, _ => simp at h3
  | [_, _, _], [], _, _, h2, _, _, _, _, _ => simp at h2
  | [_, _, _], [_], _, _, h2, _, _, _, _, _ => simp at h2
  | [_, _, _], [_, _], _, _, h2, _, _, _, _, _ => simp at h2
  | [_, _, _], _ :: _ :: _ :: _ :: _, _, _, h2, _, _, _, _, _ => simp at h2
  | [_, _, _], [_, _, _], [], _, _, h3, _, _, _, _ => simp at h3
  | [_, _, _], [_, _, _], [_], _, _, h3, _, _, _, _ => simp at h3
  | [_, _, _], [_, _, _], [_, _], _, _, h3, _, _, _, _ => simp at h3
  | [_, _, _], [_, _, _], _ :: _ :: _ :: _ :: _, _, _, h3, _, _, _, _ => simp at h3
end
end Yv

set_option Elab.async false
set_option linter.all false
set_option maxRecDepth 100000
set_option maxHeartbeats 4000000
/-! I28: soundness of denS -/
namespace Yv
open PySem L2 PySem.Spec PyProof.Rows
section
variable {CX : CXT} {ca : Nat → Addr} {X : Cx} {W : WX} {C : Ct}
theorem ws1 (t e : Expr) (l : Nat) (env : Env) : swapsWithSole [t] e l env = swapsWith e (some t) l env := by
  first | rfl | (unfold swapsWithSole; rfl) | (simp only [swapsWithSole]) | (delta swapsWithSole; rfl)
theorem as1 {x i : Expr} {p : Pos} {env : Env} (h : isSlice i = false) (v : Value) : assign (.Subscript x i p) env v = (do
    let ov ← holding [v] (eval x env)
    let iv ← holding [v, ov] (eval i env)
    standAt p
    holding [v, ov, iv] (setItem ov iv v)
    release [v, ov, iv] []) := by
  cases i <;> first | rfl | (simp [isSlice] at h)
theorem tS_asgfail {w : Wc} {P : List Nat} {t : Tg} {DD : Ends} {σ : L2.St} {H : Hp} (h : tS w P (mAsg P t mFail) DD σ H) : False := by obtain ⟨Z, δ, F, e, h⟩ := h; exact h
theorem ps_if' {w : Wc} {P : List Nat} {s : Stmt} {c : Bool} {a b : Ms} (h1 : c = true → PS X s (tS w P a)) (h2 : PS X s (tS w P b)) : PS X s (tS w P (if c = true then a else b)) := if_fail (P := fun x => PS X s (tS w P x)) h1 h2
/-- x = e -/
theorem asg_name (o : XO CX X ca W C) {n : Nat} {x : Str} {p pos : Pos} {e : Expr} {tg : Tg} (ht : tgD 1 C (.Name x p) = some tg) : PS X (.Assign [.Name x p] e pos) (tS (wOf X ca W) C.P (mAsg C.P tg (den n C e))) := by
  have g := tg_sound (W := W) o C.P 1 _ _ ht
  have he := (den_sound n C X W o).1 e
  have gen : swapsWith e (some (.Name x p)) pos.line X.env = pure false → PS X (.Assign [.Name x p] e pos) (tS (wOf X ca W) C.P (mAsg C.P tg (den n C e))) := fun h =>
    PS.imp (ps_asg he g h rfl rfl) fun D σ H h => tAsg' (w := wOf X ca W) (fun v σ H Q h => h) h
  cases hc : isComp e with
  | false => exact gen (swaps_plain hc _ _ _)
  | true =>
    cases e with
    | SetComp a b c d =>
      cases n with
      | zero => exact ⟨fun _ _ _ _ _ _ h => (tS_asgfail h).elim⟩
      | succ n => exact ⟨fun _ _ _ _ _ _ h => (tS_asgfail h).elim⟩
    | DictComp a b c d f =>
      cases n with
      | zero => exact ⟨fun _ _ _ _ _ _ h => (tS_asgfail h).elim⟩
      | succ n => exact ⟨fun _ _ _ _ _ _ h => (tS_asgfail h).elim⟩
    | ListComp elt gens scope lp =>
      have sw : swapsWith (.ListComp elt gens scope lp) (some (.Name x p)) pos.line X.env = pure (X.env.blockKind == .function && X.env.kindOf x == some .local && p.line == lp.line && !(scope.names.any fun (n, k) => n == x && (k == .local || k == .cell))) := rfl
      cases hb : (X.env.blockKind == .function && X.env.kindOf x == some .local && p.line == lp.line && !(scope.names.any fun (n, k) => n == x && (k == .local || k == .cell))) with
      | false => exact gen (by rw [sw, hb])
      | true =>
        rw [hb] at sw
        simp only [Bool.and_eq_true, beq_iff_eq] at hb
        have loc : X.env.scope.names.lookup x = some .local := hb.1.1.2
        -- the target is the name's slot
        have tgn : ∃ i, tg = .nm i ∧ C.slot x = some i := by
          unfold tgD at ht
          rcases ite_some ht with ⟨_, ht⟩ | ⟨_, ht⟩
          · cases q : C.slot x with
            | none => rw [q] at ht; cases ht
            | some i => rw [q] at ht; cases ht; exact ⟨i, rfl, rfl⟩
          · cases ht
        obtain ⟨i, rfl, hi⟩ := tgn
        obtain ⟨hN, _⟩ := o.vis hi
        cases n with
        | zero => exact ⟨fun _ _ _ _ _ _ h => (tS_asgfail h).elim⟩
        | succ n =>
          match gens with
          | [] => exact ⟨fun _ _ _ _ _ _ h => (tS_asgfail h).elim⟩
          | g1 :: g2 :: gs =>
            have e : den (n + 1) C (.ListComp elt (g1 :: g2 :: gs) scope lp) = mFail := by
              unfold den
              split <;> first | rfl | skip
              all_goals simp_all
            rw [e]; exact ⟨fun _ _ _ _ _ _ h => (tS_asgfail h).elim⟩
          | [⟨tg, it, ifs, as⟩] =>
            by_cases ha : as = 0
            rotate_left
            · have e : den (n + 1) C (.ListComp elt [⟨tg, it, ifs, as⟩] scope lp) = mFail := by
                unfold den
                split <;> first | rfl | skip
                all_goals first | (rename_i h; cases h; exact absurd rfl ha) | skip
                all_goals simp_all
              rw [e]; exact ⟨fun _ _ _ _ _ _ h => (tS_asgfail h).elim⟩
            · subst ha
              have ih := den_sound (CX := CX) (ca := ca) n
              have he2 := (ih C X W o).1
              show PS X _ (tS _ _ (mAsg C.P (.nm i) (if blkC C.N C.sc scope (ownOf C.N scope) && !isSetE it then match (generalizing := false) tgD n (C.blk scope) tg, ifs with
                | some t, [] => mLc (denIter (den n C) C tg it) t (fun δ => .ok true δ) (den n (C.blk scope) elt) ((ownOf C.N scope).map (·.2))
                | some t, [c] => mLc (denIter (den n C) C tg it) t (denT (den n (C.blk scope)) n c) (den n (C.blk scope) elt) ((ownOf C.N scope).map (·.2))
                | _, _ => mFail
              else mFail)))
              have nope : PS X (.Assign [.Name x p] (.ListComp elt [⟨tg, it, ifs, 0⟩] scope lp) pos) (tS (wOf X ca W) C.P (mAsg C.P (.nm i) mFail)) := ⟨fun _ _ _ _ _ _ h => (tS_asgfail h).elim⟩
              refine if_fail (P := fun z => PS X _ (tS (wOf X ca W) C.P (mAsg C.P (.nm i) z))) (fun c => ?_) nope
              simp only [Bool.and_eq_true, Bool.not_eq_true'] at c
              have bok : BlkOk X.N X.env.scope scope (ownOf C.N scope) := by rw [o.hN, o.sc]; exact blkOk_by c.1
              cases ht2 : tgD n (C.blk scope) tg with
              | none => exact nope
              | some t =>
                obtain ⟨k1, k2, k3⟩ := lc_parts ih o (elt := elt) (it := it) ht2
                match ifs with
                | [] =>
                  refine PS.imp (ps_setLc o.calm (by rw [o.hN]; exact o.nd) hN loc sw (iter_sound o he2) bok k1 (fun _ _ _ _ _ => pts_nil) k2 (fold_ok c.2)) fun D σ H h => ?_
                  have h2 := tAsg' (w := wOf X ca W) (g := gName i) (fun v σ H Q h => tG_name h) h
                  exact tLc' (w := wOf X ca W) (fun σ H R h => h) (fun P v σ H Q h => ⟨P, h⟩) (fun σ H Q h => tT_yes h) (fun σ H Q h => h) h2
                | [cd] =>
                  refine PS.imp (ps_setLc o.calm (by rw [o.hN]; exact o.nd) hN loc sw (iter_sound o he2) bok k1 (fun s H c cl fp => pts_one (k3 cd s H c cl fp)) k2 (fold_ok c.2)) fun D σ H h => ?_
                  have h2 := tAsg' (w := wOf X ca W) (g := gName i) (fun v σ H Q h => tG_name h) h
                  exact tLc' (w := wOf X ca W) (fun σ H R h => h) (fun P v σ H Q h => ⟨P, h⟩) (fun σ H Q h => h) (fun σ H Q h => h) h2
                | _ :: _ :: _ => exact nope
    | _ => simp [isComp] at hc
theorem asg_sound (o : XO CX X ca W C) {n : Nat} {t e : Expr} {pos : Pos} : PS X (.Assign [t] e pos) (tS (wOf X ca W) C.P (denAsg n C t e)) := by
  have he := (den_sound (CX := CX) (ca := ca) n C X W o).1
  have tup : ∀ {ts k p tg}, isComp e = false → swappedStores [.Tuple ts k p] e X.env = pure none → tgD n C (.Tuple ts k p) = some tg → PS X (.Assign [.Tuple ts k p] e pos) (tS (wOf X ca W) C.P (mAsg C.P tg (den n C e))) := fun {ts k p tg} hc hw ht =>
    PS.imp (ps_asg (he e) (tg_sound (W := W) o C.P n _ _ ht) (by rw [ws1]; exact swaps_plain hc _ _ _) hw rfl) fun D σ H h => tAsg' (w := wOf X ca W) (fun v σ H Q h => h) h
  unfold denAsg
  cases t with
  | Name x p =>
    dsimp only
    cases ht : tgD 1 C (.Name x p) with
    | none => exact ps_failY
    | some tg => exact asg_name o ht
  | Tuple ts k p =>
    dsimp only
    have other : isComp e = false → swappedStores [.Tuple ts k p] e X.env = pure none → PS X (.Assign [.Tuple ts k p] e pos) (tS (wOf X ca W) C.P (match tgD n C (.Tuple ts k p) with | some tg => mAsg C.P tg (den n C e) | none => mFailS)) := by
      intro h1 h2
      cases ht : tgD n C (.Tuple ts k p) with
      | none => exact ps_failY
      | some tg => exact tup h1 h2 ht
    cases e with
    | Tuple vs k2 p2 =>
      dsimp only
      refine ps_if' (fun c => ?_) ps_failY
      simp only [Bool.and_eq_true] at c
      cases hs : swapN C ts vs with
      | none =>
        dsimp only
        refine ps_if' (fun c2 => ?_) ps_failY
        exact other rfl (noSwap_ok o c2)
      | some names =>
        dsimp only
        cases hi : names.mapM C.slot with
        | none => exact ps_failY
        | some is =>
          dsimp only
          by_cases nd : names.Nodup
          · rw [if_pos nd]; exact par_sound o he c.2 hs nd hi
          · rw [if_neg nd]; exact ps_failY
    | ListComp a b c d => exact ps_failY
    | SetComp a b c d => exact ps_failY
    | DictComp a b c d f => exact ps_failY
    | _ => exact other rfl rfl
  | Subscript b i p =>
    cases b with
    | Name x p2 =>
      dsimp only
      cases hc2 : isComp e || isSlice i with
      | true => exact ps_failY
      | false =>
        simp only [Bool.or_eq_false_iff] at hc2
        obtain ⟨hc, hsl⟩ := hc2
        refine ps_if' (c := okNm x) (fun c => ?_) ps_failY
        cases hs : C.slot x with
        | none => exact ps_failY
        | some j =>
          obtain ⟨h1, h2⟩ := o.vis hs
          refine PS.imp (ps_asg (he e) (pg_sub (pe_var h1 h2 (okNm1 c) (okNm2 c)) (he i) (set_Y (X := X) (by have := o.un; omega)) (as1 hsl)) (by rw [ws1]; exact swaps_plain hc _ _ _) rfl rfl) fun D σ H h => ?_
          exact tSto (w := wOf X ca W) (fun σ H Q h => h) (fun σ H Q h => h) h
    | _ => exact ps_failY
  | _ => exact ps_failY
theorem sts_sound {P : List Nat} {m : Stmt → Ms} (hm : ∀ s, PS X s (tS (wOf X ca W) P (m s))) : ∀ {ss : List Stmt}, PSs X ss (tS (wOf X ca W) P (mSs (ss.map m)))
  | [] => PSs.imp pss_nil fun D σ H h => tPass h
  | s :: ss => PSs.imp (pss_cons (hm s) (sts_sound hm)) fun D σ H h => tSeq' h
theorem denS_sound (o : XO CX X ca W C) (hp : PassesOwn (model X.prog X.w) X.A X.env X.xe) : ∀ (n : Nat) (s : Stmt), PS X s (tS (wOf X ca W) C.P (denS n C s))
  | 0, _ => ps_failY
  | n + 1, s => by
    have ih := denS_sound o hp n
    have sd := den_sound (CX := CX) (ca := ca) n
    have he := (sd C X W o).1
    have ht := fun e => sd.test o n e
    cases s with
    | Pass p => exact PS.imp ps_pass fun D σ H h => tPass h
    | Break p => exact PS.imp ps_break fun D σ H h => tBrk h
    | Continue p => exact PS.imp ps_continue fun D σ H h => tCt h
    | Return e p =>
      cases e with
      | none => exact PS.imp ps_retN fun D σ H h => tRetN' h
      | some e => exact PS.imp (ps_ret (he e)) fun D σ H h => tRetM h
    | Expr e p =>
      show PS X _ (tS _ _ (if isComp e then mFailS else mDo (den n C e)))
      cases hc : isComp e with
      | true => exact ps_failY
      | false => exact PS.imp (ps_expr (he e) (swaps_plain hc _ _ _)) fun D σ H h => tDo h
    | If c a b p => exact PS.imp (ps_if (ht c) (sts_sound ih) (sts_sound ih)) fun D σ H h => tIfS' h
    | While c body els p =>
      cases els with
      | nil => exact PS.imp (ps_while hp (ht c) (sts_sound ih)) fun D σ H h => tWhile' (fun σ H Q h => h) (fun D σ H h => h) h
      | cons _ _ => exact ps_failY
    | For tg it body els p =>
      cases els with
      | nil =>
        show PS X _ (tS _ _ (if isSetE it then mFailS else match tgD n C tg with | some t => mFor C.P (denIter (den n C) C tg it) t (mSs (body.map (denS n C))) | none => mFailS))
        cases hs : isSetE it with
        | true => exact ps_failY
        | false =>
          cases hg : tgD n C tg with
          | none => exact ps_failY
          | some t => exact PS.imp (ps_for hp o.calm (iter_sound o he) (tg_sound (W := W) o C.P n _ _ hg) (sts_sound ih) (fold_ok hs)) fun D σ H h => tFor' (fun σ H R h => h) (fun v σ H Q h => h) (fun D σ H h => h) h
      | cons _ _ => exact ps_failY
    | Assign ts e p =>
      match ts with
      | [] => exact ps_failY
      | [t] => exact asg_sound o
      | _ :: _ :: _ => exact ps_failY
    | _ => exact ps_failY
end
end Yv

set_option Elab.async false
set_option linter.all false
set_option maxRecDepth 100000
set_option maxHeartbeats 4000000
/-! I29: defs: from the body's meaning to the promise; the whole program -/
namespace Yv
open PySem L2 PySem.Spec PyProof.Rows

structure Df where
  name : Str
  st : Stmt
  ps : List Str
  N : List Str
  P : List Nat
structure Pg where
  dfs : List Df
  kws : List (Str × Nat × List Str)
  gv : Str → Option D
  bl : List Str
  fuel : Nat
  dn : Nat
def Pg.df (g : Pg) (x : Str) : Option Df := g.dfs.find? fun d => d.name == x
def Pg.ct (g : Pg) (call : Str → Option (List D → CR)) (d : Df) : Ct :=
  { N := d.N, sc := defScope d.st, fn := fun _ => true, P := d.P, call := call, ps := fun x => (g.df x).map (·.ps), kws := g.kws, gv := g.gv, bl := g.bl, fuel := g.fuel }
def bodyM (n : Nat) (C : Ct) (st : Stmt) : Ms := mSs ((defBody st).map (denS n C))
/-- what became of the arguments: those of protected slots as they are now -/
def finP (P : List Nat) (δ : Env') : Nat → List D → Option (List D)
  | _, [] => some []
  | i, d :: ds => match (if i ∈ P then (δ[i]?).join else some d), finP P δ (i + 1) ds with
    | some d', some ds' => some (d' :: ds')
    | _, _ => none
def pureOut (P : List Nat) : Nat → List D → Bool
  | _, [] => true
  | i, d :: ds => (decide (i ∈ P) || d.pure) && pureOut P (i + 1) ds
def callM (d : Df) (body : Ms) (ds : List D) : CR :=
  if ds.length = d.ps.length ∧ d.ps.length ≤ d.N.length ∧ pureOut d.P 0 ds = true then
    match body (somes ds ++ List.replicate (d.N.length - ds.length) none) with
    | .nx δ => match finP d.P δ 0 ds with
      | some ds' => .ok .non ds'
      | none => .fail
    | .rt r δ => match finP d.P δ 0 ds with
      | some ds' => .ok r ds'
      | none => .fail
    | .exc x δ => match finP d.P δ 0 ds with
      | some ds' => .exc x ds'
      | none => .fail
    | _ => .fail
  else .fail
/-- exceptions are not spoken of -/
def CR.nox : CR → CR
  | .exc _ _ => .fail
  | o => o
def Pg.sem (g : Pg) : Nat → Str → Option (List D → CR)
  | 0, _ => none
  | k + 1, x => (g.df x).map fun d ds => (callM d (bodyM g.dn (g.ct (g.sem k) d) d.st) ds).nox

theorem finP_get {P : List Nat} {δ : Env'} : ∀ {ds ds' : List D} {i : Nat}, finP P δ i ds = some ds' → ds'.length = ds.length ∧ ∀ (j : Nat) (d' : D), ds'[j]? = some d' → (i + j ∈ P ∧ δ[i + j]? = some (some d')) ∨ (i + j ∉ P ∧ ds[j]? = some d')
  | [], ds', i, h => by cases h; exact ⟨rfl, fun j d' q => by simp at q⟩
  | d :: ds, ds', i, h => by
    unfold finP at h
    cases q1 : (if i ∈ P then (δ[i]?).join else some d) with
    | none => rw [q1] at h; simp at h
    | some d1 =>
      cases q2 : finP P δ (i + 1) ds with
      | none => rw [q1, q2] at h; simp at h
      | some ds1 =>
        rw [q1, q2] at h; cases h
        obtain ⟨l, g⟩ := finP_get q2
        refine ⟨by simp [l], fun j d' q => ?_⟩
        cases j with
        | zero =>
          cases q
          by_cases c : i ∈ P
          · rw [if_pos c] at q1; exact .inl ⟨c, join_some q1⟩
          · rw [if_neg c] at q1; cases q1; exact .inr ⟨c, rfl⟩
        | succ j =>
          have := g j d' (by simpa using q)
          rw [show i + 1 + j = i + (j + 1) by omega] at this
          simpa using this
theorem pureOut_get {P : List Nat} : ∀ {ds : List D} {i : Nat}, pureOut P i ds = true → ∀ (j : Nat) (d : D), ds[j]? = some d → i + j ∉ P → d.pure = true
  | [], _, _, j, d, q, _ => by simp at q
  | d0 :: ds, i, h, j, d, q, hn => by
    simp only [pureOut, Bool.and_eq_true, Bool.or_eq_true, decide_eq_true_eq] at h
    cases j with
    | zero => cases q; exact h.1.resolve_left hn
    | succ j => exact pureOut_get h.2 j d (by simpa using q) (by rw [show i + 1 + j = i + (j + 1) by omega]; exact hn)
section
variable {K : PySem.W.Frag} {Z Z' : Zp} {H H' : Hp} {F F' : Fp}
theorem ER.start {ds : List D} {vs : List V} (e : ER K Z H (somes ds) (somes vs) F) (m : Nat) : ER K Z H (somes ds ++ List.replicate m none) (somes vs ++ List.replicate m none) F where
  len := by have := e.len; simp only [List.length_append, List.length_replicate]; omega
  rep := fun i d q => by
    have l := e.len
    by_cases hi : i < (somes ds).length
    · rw [List.getElem?_append_left hi] at q
      rw [List.getElem?_append_left (by omega)]
      exact e.rep i d q
    · rw [List.getElem?_append_right (by omega), List.getElem?_replicate] at q
      split at q <;> cases q
  emp := fun i q => e.emp i fun d h => q d (by
    have hi : i < (somes ds).length := (List.getElem?_eq_some_iff.mp h).1
    rw [List.getElem?_append_left hi]; exact h)
  nd := e.nd
  dj := e.dj
  nz := e.nz
  zt := e.zt
/-- the arguments at the end -/
theorem ER.fin {ds ds' : List D} {vs : List V} {m : Nat} {P : List Nat} {δ' : Env'} {σ' : L2.St} {PP : Zp} (e : ER K Z H (somes ds) (somes vs) F) (e' : ER K Z' H' δ' σ' F') (k : Kept P (somes vs ++ List.replicate m none) σ') (hf : finP P δ' 0 ds = some ds') (hp : pureOut P 0 ds = true)
    (p : Post Z H (Pf F) Z' H' PP) : ER K Z' H' (somes ds') (somes vs) (fun i => if i ∈ P ∧ i < ds.length then F' i else []) := by
  obtain ⟨l, g⟩ := finP_get hf
  have ll := e.len
  have lv : vs.length = ds.length := by unfold somes at ll; simpa using ll.symm
  have zx : Zx Z H Z' H' := p.zx fun a z ⟨i, m⟩ => e.nz i a m z
  refine ⟨by unfold somes; simp [l, lv], fun i d q => ?_, fun i q => ?_, fun i => ?_, fun i j a m1 m2 => ?_, fun i a m => ?_, e'.zt⟩
  · rw [somes_get] at q
    have hi : i < ds.length := by rw [← l]; exact (List.getElem?_eq_some_iff.mp q).1
    have hg := g i d q
    rw [Nat.zero_add] at hg
    have hv : (somes vs)[i]? = some (some vs[i]) := somes_get.mpr (by simp [lv, hi])
    rcases hg with ⟨c, h⟩ | ⟨c, h⟩
    · obtain ⟨v, q1, q2⟩ := e'.rep i d h
      rw [k i c, List.getElem?_append_left (by unfold somes; simp [lv, hi]), hv] at q1
      cases q1
      exact ⟨_, hv, by rw [if_pos ⟨c, hi⟩]; exact q2⟩
    · obtain ⟨v, q1, q2⟩ := e.rep i d (somes_get.mpr h)
      have pd := pureOut_get hp i d h (by rw [Nat.zero_add]; exact c)
      exact ⟨v, q1, by rw [if_neg (fun z => c z.1)]; exact (q2.pureO pd).mono zx (fun _ m => by cases m)⟩
  · by_cases c : i ∈ P ∧ i < ds.length
    · exfalso
      have hi : i < ds'.length := by rw [l]; exact c.2
      exact q ds'[i] (somes_get.mpr (by simp [hi]))
    · rw [if_neg c]
  · split
    · exact e'.nd i
    · exact List.nodup_nil
  · by_cases c : i ∈ P ∧ i < ds.length
    · rw [if_pos c] at m1
      by_cases c2 : j ∈ P ∧ j < ds.length
      · rw [if_pos c2] at m2; exact e'.dj i j a m1 m2
      · rw [if_neg c2] at m2; cases m2
    · rw [if_neg c] at m1; cases m1
  · by_cases c : i ∈ P ∧ i < ds.length
    · rw [if_pos c] at m; exact e'.nz i a m
    · rw [if_neg c] at m; cases m
theorem Pf_fin {P : List Nat} {n : Nat} {a : Addr} (h : Pf (fun i => if i ∈ P ∧ i < n then F' i else []) a) : Pf F' a := by
  obtain ⟨i, m⟩ := h
  dsimp only at m
  split at m
  · exact ⟨i, m⟩
  · cases m
end
/-- from the body's meaning to the def's promise; W: how an exception of the body is wished for -/
theorem callM_body {K : PySem.W.Frag} {ca : Nat → Addr} {d : Df} {body : Ms} {vs : List V} {H : Hp} {Q : VK} {E : XK} (h : spF K ca (callM d body) vs H Q E) :
    vs.length = d.ps.length ∧ tS ⟨K, ca, fun cls dd _ H' => E cls dd H'⟩ d.P body { nx := fun _ H' => Q .non H', rt := Q } (start d.N vs) H := by
  obtain ⟨Z, ds, F, e, h⟩ := h
  have ll := e.len
  have lv : vs.length = ds.length := by unfold somes at ll; simpa using ll.symm
  by_cases c : ds.length = d.ps.length ∧ d.ps.length ≤ d.N.length ∧ pureOut d.P 0 ds = true
  rotate_left
  · unfold callM at h; rw [if_neg c] at h; exact h.elim
  refine ⟨by omega, Z, somes ds ++ List.replicate (d.N.length - ds.length) none, F, ?_, ?_⟩
  · have := e.start (d.N.length - ds.length)
    unfold L2.start
    rw [lv]
    exact this
  · unfold callM at h
    rw [if_pos c] at h
    have st : L2.start d.N vs = somes vs ++ List.replicate (d.N.length - ds.length) none := by unfold L2.start somes; rw [lv]
    rw [st]
    cases hb : body (somes ds ++ List.replicate (d.N.length - ds.length) none) with
    | nx δ =>
      rw [hb] at h
      dsimp only at h
      cases hf : finP d.P δ 0 ds with
      | none => rw [hf] at h; exact h.elim
      | some ds' =>
        rw [hf] at h
        intro σ' Z' H' F' e' p k
        refine h .non Z' H' _ [] (e.fin e' k hf c.2.2 p) ⟨rfl, rfl⟩ .nil (p.drop fun a z => z.elim Pf_fin fun z => by cases z)
    | rt r δ =>
      rw [hb] at h
      dsimp only at h
      cases hf : finP d.P δ 0 ds with
      | none => rw [hf] at h; exact h.elim
      | some ds' =>
        rw [hf] at h
        intro v σ' Z' H' F' O e' rr t p k
        refine h v Z' H' _ O (e.fin e' k hf c.2.2 p) rr ⟨t.nd, t.nz, fun a m i mi => ?_⟩ (p.drop fun a z => z.elim (fun z => .inl (Pf_fin z)) .inr)
        split at mi
        · exact t.dj a m i mi
        · cases mi
    | exc x δ =>
      rw [hb] at h
      dsimp only at h
      cases hf : finP d.P δ 0 ds with
      | none => rw [hf] at h; exact h.elim
      | some ds' =>
        rw [hf] at h
        intro cls dd σ' Z' H' F' e' x' p k
        exact h cls dd Z' H' _ (e.fin e' k hf c.2.2 p) x' (p.drop fun a z => Pf_fin z)
    | bk δ => rw [hb] at h; exact h.elim
    | ct δ => rw [hb] at h; exact h.elim
    | fail => rw [hb] at h; exact h.elim
theorem spF_nox {K : PySem.W.Frag} {ca : Nat → Addr} {fm : List D → CR} {vs : List V} {H : Hp} {Q : VK} {E : XK} (h : spF K ca (fun ds => (fm ds).nox) vs H Q E) : spF K ca fm vs H Q (fun _ _ _ => False) := by
  obtain ⟨Z, ds, F, e, h⟩ := h
  refine ⟨Z, ds, F, e, ?_⟩
  dsimp only at h
  cases q : fm ds with
  | ok d ds' => rw [q] at h; exact h
  | exc x ds' => rw [q] at h; exact h.elim
  | fail => rw [q] at h; exact h
/-! ### the whole program, nothing raised -/
/-- what the text's facts say of a def -/
structure DfOk (K : PySem.W.Frag) (mg : Str → Option Value) (kws : List (Str × Nat × List Str)) (d : Df) (f : Addr) (fd : FuncData) : Prop where
  fn : Fun K d.name d.name d.st f fd
  mg : mg d.name = some (.ref f)
  bd : Binds K fd d.ps []
  sc : FnScope d.N d.ps (defScope d.st)
  kw : ∀ a ks, kws.contains (d.name, a, ks) = true → ∀ perm, permOf d.ps a ks = some perm → KwB K fd d.ps a ks perm
structure PgOk (K : PySem.W.Frag) (mg : Str → Option Value) (g : Pg) : Prop where
  df : ∀ d ∈ g.dfs, ∃ f fd, DfOk K mg g.kws d f fd
  bl : ∀ x, g.bl.contains x = true → mg x = none
  gv : ∀ x d, g.gv x = some d → ∃ v u, mg x = some u ∧ RelV v u ∧ ∀ Z H, Rep K Z H d v []
theorem Pg.df_some {g : Pg} {x : Str} {d : Df} (h : g.df x = some d) : d ∈ g.dfs ∧ d.name = x := by
  unfold Pg.df at h
  exact ⟨List.mem_of_find?_eq_some h, by have := List.find?_some h; simpa using this⟩
theorem sem_ok {K : PySem.W.Frag} {mg : Str → Option Value} {g : Pg} {ca : Nat → Addr} (T : PgOk K mg g) : ∀ (k : Nat) (x : Str) (fm : List D → CR), g.sem k x = some fm →
    ∃ f fd d, g.df x = some d ∧ DfOk K mg g.kws d f fd ∧ ∀ (P : Program) (w : World) (base : Heap), FnG P w K mg base L2.CX0 k f fd d.ps (spF K ca fm)
  | 0, x, fm, h => by cases h
  | k + 1, x, fm, h => by
    unfold Pg.sem at h
    cases hd : g.df x with
    | none => rw [hd] at h; cases h
    | some d =>
      rw [hd] at h; cases h
      obtain ⟨md, nm⟩ := Pg.df_some hd
      obtain ⟨f, fd, ok⟩ := T.df d md
      refine ⟨f, fd, d, rfl, ok, fun P w base => okG ok.fn ok.sc (fun vs H Q E h => (callM_body (spF_nox h)).1) ?_⟩
      intro cdv A outer s H vs Q E room h
      obtain ⟨_, go⟩ := callM_body (spF_nox h)
      let X : Cx := (cxOf L2.CX0 P w K mg base d.N d.name (defScope d.st) f cdv A outer s H E).nox
      have o : XO L2.CX0 X ca (fun _ _ _ _ => False) (g.ct (g.sem k) d) := {
        hN := rfl
        nd := ok.sc.nd
        sc := rfl
        fn := fun _ _ => rfl
        calm := rfl
        gd := room.gd
        un := by have := room.rm.un; show (A.deeper _).units + 65 < cLine; omega
        bl := T.bl
        gv := T.gv
        call := fun y fm' hy => by
          obtain ⟨f', fd', d', h1, h3, h2⟩ := sem_ok (ca := ca) T k y fm' hy
          have ny := (Pg.df_some h1).2
          refine ⟨k, f', fd', d'.ps, h2 P w base, room, by rw [← ny]; exact h3.mg, h3.fn.kp, h3.bd, by show (g.df y).map (·.ps) = _; rw [h1]; rfl, fun a ks hk => h3.kw a ks (by rw [ny]; exact hk)⟩
        pass := fun _ _ _ _ _ _ _ h => h.elim
        cxF := fun _ _ _ _ _ h => h }
      have snd := sts_sound (X := X) (ca := ca) (W := fun _ _ _ _ => False) (P := d.P) (fun st => denS_sound o PassesOwn.never g.dn st) (ss := defBody d.st)
      exact ⟨_, snd.nox, go⟩
/-- the keywords' patterns of one def -/
def kwFor (kws : List (Str × Nat × List Str)) (x : Str) : List (Nat × List Str) := kws.filterMap fun p => if p.1 = x then some p.2 else none
theorem kwFor_mem {kws : List (Str × Nat × List Str)} {x : Str} {a : Nat} {ks : List Str} (h : kws.contains (x, a, ks) = true) : (a, ks) ∈ kwFor kws x := by
  have m : (x, a, ks) ∈ kws := by simpa using h
  exact List.mem_filterMap.mpr ⟨_, m, by simp⟩
theorem mk_df {K : PySem.W.Frag} {mg : Str → Option Value} {h : Heap} {kws : List (Str × Nat × List Str)} {d : Df} (X : K.In h) (G : h.Ns mainGlobals mg) {f : Addr} {od an : Option Addr} {sl : Array (Option Value)} {oc kV dc pm cd ct : Value}
    (sc : FnScope d.N d.ps (defScope d.st))
    (bd : ∀ (kV doc pm : Value) (an : Option Addr) (cdv ct : Value) (us : List Value), us.length = d.ps.length → bindArgs (PySem.W.fnOf d.name d.name (defArgs d.st) (defBody d.st) (defScope d.st) .none kV doc pm an cdv ct) ⟨us, []⟩ = pure (d.ps.zip us))
    (kw : ∀ (K : PySem.W.Frag) (kV doc pm : Value) (an : Option Addr) (cdv ct : Value) a ks, (a, ks) ∈ kwFor kws d.name → ∀ perm, permOf d.ps a ks = some perm → KwB K (PySem.W.fnOf d.name d.name (defArgs d.st) (defBody d.st) (defScope d.st) .none kV doc pm an cdv ct) d.ps a ks perm)
    (a : PySem.W.nsIn K mainGlobals d.name = some (some (.ref f))) (l : K.lookup f = some ⟨oc, od, .func (PySem.W.fnOf d.name d.name (defArgs d.st) (defBody d.st) (defScope d.st) .none kV dc pm an cd ct), sl⟩)
    (c : PySem.W.codeIn K cd d.name = true) (k : PySem.W.keepIn K (.ref f) = true) : ∃ f fd, DfOk K mg kws d f fd := by
  have F := fun_mk (st := d.st) l c k
  exact ⟨f, _, F, PySem.W.mg_of X G a, F.binds bd, sc, fun a ks hk perm hp => kw K kV dc pm an cd ct a ks (kwFor_mem hk) perm hp⟩
/-- the end: the law's def answers True -/
theorem walk_law {l : PySem.W.OpenLaw} {n k : Nat} {q : Program} {loose : List Str} {XP : (Str → Option Value) → Heap → Prop} {YP : World → Heap → Prop} {d : DefRec} {K : Params → PySem.W.Frag} {g : Pg} {dl : Df} {fm : List D → CR}
    (hn : l.most = some n) (hn2 : n ≤ sizeLine) (nd : d.params.defaults = []) (room : RoomG k callerA) (kY : ∀ (w : World) (h : Heap), YP w h → (K w.params).In h)
    (hd : g.df d.name = some dl) (hps : dl.ps = [("script" : Str)]) (hs : g.sem k d.name = some fm) (hfm : ∀ ns : List Int, ns.length ≤ n → fm [.scr ns] = .ok (.bl true) [.scr ns])
    (F : ∀ (w : World) (mg : Str → Option Value) (h : Heap), (K w.params).In h → h.Ns mainGlobals mg → PgOk (K w.params) mg g) :
    PySem.W.WalkO q loose XP YP l.row.toRowW d [] (fun f vs => PySem.call f vs) := by
  refine walk_top (k := k) (x := "script") (CX := fun _ => L2.CX0) (sp := fun w => spF (K w.params) (fun _ => 0) fm) hn hn2 nd room kY (fun w mg fa h X G hfa => ?_) (fun w H a ns hl only sq => ?_) (fun _ _ _ _ _ z => z)
  · obtain ⟨f, fd, d', h1, h2, h3⟩ := sem_ok (ca := fun _ => 0) (F w mg h X G) k d.name fm hs
    rw [hd] at h1; cases h1
    have nm := (Pg.df_some hd).2
    have := h2.mg
    rw [nm, hfa] at this
    cases this
    refine ⟨fd, fun s u hk => ?_, fun base _ _ => by rw [← hps]; exact h3 _ w base⟩
    have := h2.bd s [u] hk (by rw [hps]; rfl)
    rw [hps] at this
    exact this
  · have run : ∀ (Z : Zp), LstAt (K w.params) Z H a (ns.map V.int) → (∀ b, Z b → ∃ o, H b = some o) → spF (K w.params) (fun _ => 0) fm [.ref a] H (fun v _ => v = .bl true) (fun _ _ _ => False) := by
      intro Z la zt
      refine ⟨Z, [.scr ns], fun _ => [], ⟨rfl, fun i d q => ?_, fun _ _ => rfl, fun _ => List.nodup_nil, fun _ _ _ m => ?_, fun _ _ m => ?_, zt⟩, ?_⟩
      · cases i with
        | zero => cases q; exact ⟨.ref a, rfl, ⟨a, rfl, la⟩, rfl⟩
        | succ i => cases q
      · cases m
      · cases m
      · rw [hfm ns hl]
        intro v Z' H' F' O _ r _ _
        exact r.1
    rcases sq with sq | sq
    · refine run (fun b => b = a) (.inl ⟨rfl, sq⟩) fun b e => ?_
      rw [e]
      rcases sq with z | ⟨o, z⟩
      · exact ⟨_, z⟩
      · exact ⟨_, z⟩
    · refine run (fun _ => False) (.inr ?_) fun _ z => z.elim
      exact sq
end Yv

set_option Elab.async false
set_option linter.all false
set_option maxRecDepth 100000
set_option maxHeartbeats 4000000
namespace Lw
open PySem L2 Yv
def top (i : Nat) : Stmt := PySem.Challenge.pw_everyonegetsthere_k09_whole_turns_of_pla.main.body.getD i (.Pass ⟨0, 0, 0, 0⟩)
abbrev s_is_integer : Stmt := top 8
def d_is_integer : Df := ⟨"is_integer", s_is_integer, [("value" : Str)], [("value" : Str)], [0]⟩
abbrev s_is_between : Stmt := top 9
def d_is_between : Df := ⟨"is_between", s_is_between, [("value" : Str), ("low" : Str), ("high" : Str)], [("value" : Str), ("low" : Str), ("high" : Str)], [0, 1, 2]⟩
abbrev s_are_between : Stmt := top 10
def d_are_between : Df := ⟨"are_between", s_are_between, [("value" : Str), ("low" : Str), ("high" : Str)], [("value" : Str), ("low" : Str), ("high" : Str), ("one" : Str)], [0, 1, 2]⟩
abbrev s_is_tuple_of : Stmt := top 11
def d_is_tuple_of : Df := ⟨"is_tuple_of", s_is_tuple_of, [("value" : Str), ("many" : Str)], [("value" : Str), ("many" : Str)], [0, 1]⟩
abbrev s_check_many : Stmt := top 15
def d_check_many : Df := ⟨"check_many", s_check_many, [("value" : Str)], [("value" : Str)], [0]⟩
abbrev s_is_turn_of : Stmt := top 16
def d_is_turn_of : Df := ⟨"is_turn_of", s_is_turn_of, [("many" : Str), ("value" : Str)], [("many" : Str), ("value" : Str)], [0, 1]⟩
abbrev s_is_turn : Stmt := top 17
def d_is_turn : Df := ⟨"is_turn", s_is_turn, [("many" : Str), ("value" : Str)], [("many" : Str), ("value" : Str)], [0, 1]⟩
abbrev s_check_turn : Stmt := top 18
def d_check_turn : Df := ⟨"check_turn", s_check_turn, [("value" : Str)], [("value" : Str)], [0]⟩
abbrev s_check_both_turns : Stmt := top 19
def d_check_both_turns : Df := ⟨"check_both_turns", s_check_both_turns, [("one" : Str), ("other" : Str)], [("one" : Str), ("other" : Str)], [0, 1]⟩
abbrev s_still_of : Stmt := top 20
def d_still_of : Df := ⟨"still_of", s_still_of, [("many" : Str)], [("many" : Str)], [0]⟩
abbrev s_still : Stmt := top 21
def d_still : Df := ⟨"still", s_still, [("many" : Str)], [("many" : Str)], [0]⟩
abbrev s_then : Stmt := top 22
def d_then : Df := ⟨"then", s_then, [("one" : Str), ("other" : Str)], [("one" : Str), ("other" : Str), ("place" : Str)], [0, 1]⟩
abbrev s_behind : Stmt := top 23
def d_behind : Df := ⟨"behind", s_behind, [("one" : Str), ("other" : Str)], [("one" : Str), ("other" : Str)], [0, 1]⟩
abbrev s_back_of : Stmt := top 24
def d_back_of : Df := ⟨"back_of", s_back_of, [("turn" : Str)], [("turn" : Str), ("found" : Str), ("place" : Str), ("there" : Str)], [0]⟩
abbrev s_back : Stmt := top 25
def d_back : Df := ⟨"back", s_back, [("turn" : Str)], [("turn" : Str)], [0]⟩
abbrev s_times : Stmt := top 26
def d_times : Df := ⟨"times", s_times, [("turn" : Str), ("number" : Str)], [("turn" : Str), ("number" : Str), ("found" : Str), ("one" : Str), ("at" : Str), ("place" : Str)], [0, 1]⟩
abbrev s_turned_by : Stmt := top 27
def d_turned_by : Df := ⟨"turned_by", s_turned_by, [("one" : Str), ("other" : Str)], [("one" : Str), ("other" : Str)], [0, 1]⟩
abbrev s_rounds_in : Stmt := top 28
def d_rounds_in : Df := ⟨"rounds_in", s_rounds_in, [("turn" : Str)], [("turn" : Str), ("found" : Str), ("known" : Str), ("begin" : Str), ("one" : Str), ("place" : Str)], [0]⟩
abbrev s_rounds_of : Stmt := top 29
def d_rounds_of : Df := ⟨"rounds_of", s_rounds_of, [("turn" : Str)], [("turn" : Str)], [0]⟩
abbrev s_turn_by_rounds : Stmt := top 30
def d_turn_by_rounds : Df := ⟨"turn_by_rounds", s_turn_by_rounds, [("many" : Str), ("rounds" : Str)], [("many" : Str), ("rounds" : Str), ("found" : Str), ("one" : Str), ("at" : Str), ("place" : Str)], [0, 1]⟩
abbrev s_are_rounds : Stmt := top 31
def d_are_rounds : Df := ⟨"are_rounds", s_are_rounds, [("many" : Str), ("value" : Str)], [("many" : Str), ("value" : Str), ("places" : Str), ("one" : Str)], [0, 1]⟩
abbrev s_turn_of_rounds : Stmt := top 32
def d_turn_of_rounds : Df := ⟨"turn_of_rounds", s_turn_of_rounds, [("many" : Str), ("rounds" : Str)], [("many" : Str), ("rounds" : Str)], [0, 1]⟩
abbrev s_common : Stmt := top 33
def d_common : Df := ⟨"common", s_common, [("one" : Str), ("other" : Str)], [("one" : Str), ("other" : Str)], []⟩
abbrev s_order_in : Stmt := top 34
def d_order_in : Df := ⟨"order_in", s_order_in, [("turn" : Str)], [("turn" : Str), ("found" : Str), ("one" : Str)], [0]⟩
abbrev s_order_of : Stmt := top 35
def d_order_of : Df := ⟨"order_of", s_order_of, [("turn" : Str)], [("turn" : Str)], [0]⟩
abbrev s_is_even_of : Stmt := top 36
def d_is_even_of : Df := ⟨"is_even_of", s_is_even_of, [("turn" : Str)], [("turn" : Str), ("one" : Str)], [0]⟩
abbrev s_is_even : Stmt := top 37
def d_is_even : Df := ⟨"is_even", s_is_even, [("turn" : Str)], [("turn" : Str)], [0]⟩
abbrev s_row_moved : Stmt := top 38
def d_row_moved : Df := ⟨"row_moved", s_row_moved, [("turn" : Str), ("row" : Str)], [("turn" : Str), ("row" : Str), ("found" : Str), ("place" : Str), ("one" : Str)], [0, 1]⟩
abbrev s_moved : Stmt := top 39
def d_moved : Df := ⟨"moved", s_moved, [("turn" : Str), ("row" : Str)], [("turn" : Str), ("row" : Str)], [0, 1]⟩
abbrev s__law_pot : Stmt := top 41
def d__law_pot : Df := ⟨"_law_pot", s__law_pot, [("script" : Str), ("place" : Str)], [("script" : Str), ("place" : Str), ("cell" : Str), ("own" : Str), ("small" : Str)], [0, 1]⟩
abbrev s__law_take : Stmt := top 42
def d__law_take : Df := ⟨"_law_take", s__law_take, [("pot" : Str), ("upto" : Str)], [("pot" : Str), ("upto" : Str), ("digit" : Str), ("prime" : Str), ("blend" : Str)], [0, 1]⟩
abbrev s__law_of : Stmt := top 43
def d__law_of : Df := ⟨"_law_of", s__law_of, [("pot" : Str), ("some" : Str)], [("pot" : Str), ("some" : Str)], [0, 1]⟩
abbrev s__law_cells : Stmt := top 44
def d__law_cells : Df := ⟨"_law_cells", s__law_cells, [("script" : Str), ("limit" : Str)], [("script" : Str), ("limit" : Str)], [0, 1]⟩
abbrev s__law_some : Stmt := top 45
def d__law_some : Df := ⟨"_law_some", s__law_some, [("pot" : Str), ("pool" : Str), ("many" : Str)], [("pot" : Str), ("pool" : Str), ("many" : Str), ("left" : Str), ("found" : Str), ("lap" : Str)], [0, 1, 2]⟩
abbrev s__law_is_int : Stmt := top 46
def d__law_is_int : Df := ⟨"_law_is_int", s__law_is_int, [("value" : Str)], [("value" : Str)], [0]⟩
abbrev s__law_bent : Stmt := top 47
def d__law_bent : Df := ⟨"_law_bent", s__law_bent, [("pot" : Str), ("value" : Str)], [("pot" : Str), ("value" : Str), ("at" : Str)], [0, 1]⟩
abbrev s__law_turn : Stmt := top 48
def d__law_turn : Df := ⟨"_law_turn", s__law_turn, [("pot" : Str), ("many" : Str)], [("pot" : Str), ("many" : Str), ("place" : Str)], [0, 1]⟩
abbrev s__law_then : Stmt := top 49
def d__law_then : Df := ⟨"_law_then", s__law_then, [("one" : Str), ("other" : Str)], [("one" : Str), ("other" : Str), ("place" : Str)], [0, 1]⟩
abbrev s__law_back : Stmt := top 50
def d__law_back : Df := ⟨"_law_back", s__law_back, [("turn" : Str)], [("turn" : Str), ("place" : Str)], [0]⟩
abbrev s__law_rounds : Stmt := top 51
def d__law_rounds : Df := ⟨"_law_rounds", s__law_rounds, [("turn" : Str)], [("turn" : Str), ("found" : Str), ("left" : Str), ("one" : Str), ("place" : Str)], [0]⟩
abbrev s__law_common : Stmt := top 52
def d__law_common : Df := ⟨"_law_common", s__law_common, [("one" : Str), ("other" : Str)], [("one" : Str), ("other" : Str)], []⟩
abbrev s__law_right : Stmt := top 53
def d__law_right : Df := ⟨"_law_right", s__law_right, [("pot" : Str)], [("pot" : Str), ("many" : Str), ("one" : Str), ("other" : Str), ("still_one" : Str), ("rounds" : Str), ("order" : Str), ("row" : Str), ("over" : Str), ("number" : Str), ("due" : Str), ("lap" : Str), ("values" : Str), ("value" : Str), ("place" : Str), ("at" : Str), ("to" : Str)], [0]⟩
abbrev s_law : Stmt := top 54
def d_law : Df := ⟨"law", s_law, [("script" : Str)], [("script" : Str), ("place" : Str), ("pot" : Str), ("lap" : Str)], [0]⟩
def gv (x : Str) : Option D := if x = "MOST_PLACES" then some (D.int 24) else if x = "MOST_TIMES" then some (D.int 1000000) else none
def g : Pg := { dfs := [d_is_integer, d_is_between, d_are_between, d_is_tuple_of, d_check_many, d_is_turn_of, d_is_turn, d_check_turn, d_check_both_turns, d_still_of, d_still, d_then, d_behind, d_back_of, d_back, d_times, d_turned_by, d_rounds_in, d_rounds_of, d_turn_by_rounds, d_are_rounds, d_turn_of_rounds, d_common, d_order_in, d_order_of, d_is_even_of, d_is_even, d_row_moved, d_moved, d__law_pot, d__law_take, d__law_of, d__law_cells, d__law_some, d__law_is_int, d__law_bent, d__law_turn, d__law_then, d__law_back, d__law_rounds, d__law_common, d__law_right, d_law], kws := [("times", 0, [("number" : Str), ("turn" : Str)]), ("turned_by", 0, [("one" : Str), ("other" : Str)]), ("moved", 0, [("row" : Str), ("turn" : Str)]), ("still", 0, [("many" : Str)]), ("behind", 0, [("one" : Str), ("other" : Str)]), ("back", 0, [("turn" : Str)]), ("rounds_of", 0, [("turn" : Str)]), ("turn_of_rounds", 0, [("many" : Str), ("rounds" : Str)]), ("order_of", 0, [("turn" : Str)]), ("is_even", 0, [("turn" : Str)]), ("is_turn", 0, [("many" : Str), ("value" : Str)])], gv := gv, bl := [("len" : Str), ("tuple" : Str), ("list" : Str), ("int" : Str), ("isinstance" : Str), ("all" : Str), ("sum" : Str), ("max" : Str), ("min" : Str), ("abs" : Str), ("repr" : Str), ("sorted" : Str), ("str" : Str), ("bool" : Str), ("dict" : Str), ("range" : Str), ("enumerate" : Str), ("set" : Str)], fuel := 1000000, dn := 40 }
/-! ### what the top has written -/
theorem kw_is_integer : kwFor g.kws "is_integer" = [] := by decide +kernel
theorem sc_is_integer : FnScope d_is_integer.N d_is_integer.ps (defScope s_is_integer) := ⟨rfl, rfl, rfl, by decide +kernel, rfl, by decide +kernel, by decide +kernel⟩
theorem mk_is_integer {K : PySem.W.Frag} {mg : Str → Option Value} {h : Heap} (X : K.In h) (G : h.Ns mainGlobals mg) {f : Addr} {od an : Option Addr} {sl : Array (Option Value)} {oc kV dc pm cd ct : Value}
    (a : PySem.W.nsIn K mainGlobals "is_integer" = some (some (.ref f))) (l : K.lookup f = some ⟨oc, od, .func (PySem.W.fnOf "is_integer" "is_integer" (defArgs s_is_integer) (defBody s_is_integer) (defScope s_is_integer) .none kV dc pm an cd ct), sl⟩)
    (c : PySem.W.codeIn K cd "is_integer" = true) (k : PySem.W.keepIn K (.ref f) = true) : ∃ f fd, DfOk K mg g.kws d_is_integer f fd := by
  refine mk_df (d := d_is_integer) X G sc_is_integer (fun _ _ _ _ _ _ us hl => match us, hl with | [_], _ => rfl) (fun K kV dc pm an cd ct a ks hm perm hp => ?_) a l c k
  rw [show kwFor g.kws d_is_integer.name = _ from kw_is_integer] at hm
  cases hm
theorem kw_is_between : kwFor g.kws "is_between" = [] := by decide +kernel
theorem sc_is_between : FnScope d_is_between.N d_is_between.ps (defScope s_is_between) := ⟨rfl, rfl, rfl, by decide +kernel, rfl, by decide +kernel, by decide +kernel⟩
theorem mk_is_between {K : PySem.W.Frag} {mg : Str → Option Value} {h : Heap} (X : K.In h) (G : h.Ns mainGlobals mg) {f : Addr} {od an : Option Addr} {sl : Array (Option Value)} {oc kV dc pm cd ct : Value}
    (a : PySem.W.nsIn K mainGlobals "is_between" = some (some (.ref f))) (l : K.lookup f = some ⟨oc, od, .func (PySem.W.fnOf "is_between" "is_between" (defArgs s_is_between) (defBody s_is_between) (defScope s_is_between) .none kV dc pm an cd ct), sl⟩)
    (c : PySem.W.codeIn K cd "is_between" = true) (k : PySem.W.keepIn K (.ref f) = true) : ∃ f fd, DfOk K mg g.kws d_is_between f fd := by
  refine mk_df (d := d_is_between) X G sc_is_between (fun _ _ _ _ _ _ us hl => match us, hl with | [_, _, _], _ => rfl) (fun K kV dc pm an cd ct a ks hm perm hp => ?_) a l c k
  rw [show kwFor g.kws d_is_between.name = _ from kw_is_between] at hm
  cases hm
theorem kw_are_between : kwFor g.kws "are_between" = [] := by decide +kernel
theorem sc_are_between : FnScope d_are_between.N d_are_between.ps (defScope s_are_between) := ⟨rfl, rfl, rfl, by decide +kernel, rfl, by decide +kernel, by decide +kernel⟩
theorem mk_are_between {K : PySem.W.Frag} {mg : Str → Option Value} {h : Heap} (X : K.In h) (G : h.Ns mainGlobals mg) {f : Addr} {od an : Option Addr} {sl : Array (Option Value)} {oc kV dc pm cd ct : Value}
    (a : PySem.W.nsIn K mainGlobals "are_between" = some (some (.ref f))) (l : K.lookup f = some ⟨oc, od, .func (PySem.W.fnOf "are_between" "are_between" (defArgs s_are_between) (defBody s_are_between) (defScope s_are_between) .none kV dc pm an cd ct), sl⟩)
    (c : PySem.W.codeIn K cd "are_between" = true) (k : PySem.W.keepIn K (.ref f) = true) : ∃ f fd, DfOk K mg g.kws d_are_between f fd := by
  refine mk_df (d := d_are_between) X G sc_are_between (fun _ _ _ _ _ _ us hl => match us, hl with | [_, _, _], _ => rfl) (fun K kV dc pm an cd ct a ks hm perm hp => ?_) a l c k
  rw [show kwFor g.kws d_are_between.name = _ from kw_are_between] at hm
  cases hm
theorem kw_is_tuple_of : kwFor g.kws "is_tuple_of" = [] := by decide +kernel
theorem sc_is_tuple_of : FnScope d_is_tuple_of.N d_is_tuple_of.ps (defScope s_is_tuple_of) := ⟨rfl, rfl, rfl, by decide +kernel, rfl, by decide +kernel, by decide +kernel⟩
theorem mk_is_tuple_of {K : PySem.W.Frag} {mg : Str → Option Value} {h : Heap} (X : K.In h) (G : h.Ns mainGlobals mg) {f : Addr} {od an : Option Addr} {sl : Array (Option Value)} {oc kV dc pm cd ct : Value}
    (a : PySem.W.nsIn K mainGlobals "is_tuple_of" = some (some (.ref f))) (l : K.lookup f = some ⟨oc, od, .func (PySem.W.fnOf "is_tuple_of" "is_tuple_of" (defArgs s_is_tuple_of) (defBody s_is_tuple_of) (defScope s_is_tuple_of) .none kV dc pm an cd ct), sl⟩)
    (c : PySem.W.codeIn K cd "is_tuple_of" = true) (k : PySem.W.keepIn K (.ref f) = true) : ∃ f fd, DfOk K mg g.kws d_is_tuple_of f fd := by
  refine mk_df (d := d_is_tuple_of) X G sc_is_tuple_of (fun _ _ _ _ _ _ us hl => match us, hl with | [_, _], _ => rfl) (fun K kV dc pm an cd ct a ks hm perm hp => ?_) a l c k
  rw [show kwFor g.kws d_is_tuple_of.name = _ from kw_is_tuple_of] at hm
  cases hm
theorem kw_check_many : kwFor g.kws "check_many" = [] := by decide +kernel
theorem sc_check_many : FnScope d_check_many.N d_check_many.ps (defScope s_check_many) := ⟨rfl, rfl, rfl, by decide +kernel, rfl, by decide +kernel, by decide +kernel⟩
theorem mk_check_many {K : PySem.W.Frag} {mg : Str → Option Value} {h : Heap} (X : K.In h) (G : h.Ns mainGlobals mg) {f : Addr} {od an : Option Addr} {sl : Array (Option Value)} {oc kV dc pm cd ct : Value}
    (a : PySem.W.nsIn K mainGlobals "check_many" = some (some (.ref f))) (l : K.lookup f = some ⟨oc, od, .func (PySem.W.fnOf "check_many" "check_many" (defArgs s_check_many) (defBody s_check_many) (defScope s_check_many) .none kV dc pm an cd ct), sl⟩)
    (c : PySem.W.codeIn K cd "check_many" = true) (k : PySem.W.keepIn K (.ref f) = true) : ∃ f fd, DfOk K mg g.kws d_check_many f fd := by
  refine mk_df (d := d_check_many) X G sc_check_many (fun _ _ _ _ _ _ us hl => match us, hl with | [_], _ => rfl) (fun K kV dc pm an cd ct a ks hm perm hp => ?_) a l c k
  rw [show kwFor g.kws d_check_many.name = _ from kw_check_many] at hm
  cases hm
theorem kw_is_turn_of : kwFor g.kws "is_turn_of" = [] := by decide +kernel
theorem sc_is_turn_of : FnScope d_is_turn_of.N d_is_turn_of.ps (defScope s_is_turn_of) := ⟨rfl, rfl, rfl, by decide +kernel, rfl, by decide +kernel, by decide +kernel⟩
theorem mk_is_turn_of {K : PySem.W.Frag} {mg : Str → Option Value} {h : Heap} (X : K.In h) (G : h.Ns mainGlobals mg) {f : Addr} {od an : Option Addr} {sl : Array (Option Value)} {oc kV dc pm cd ct : Value}
    (a : PySem.W.nsIn K mainGlobals "is_turn_of" = some (some (.ref f))) (l : K.lookup f = some ⟨oc, od, .func (PySem.W.fnOf "is_turn_of" "is_turn_of" (defArgs s_is_turn_of) (defBody s_is_turn_of) (defScope s_is_turn_of) .none kV dc pm an cd ct), sl⟩)
    (c : PySem.W.codeIn K cd "is_turn_of" = true) (k : PySem.W.keepIn K (.ref f) = true) : ∃ f fd, DfOk K mg g.kws d_is_turn_of f fd := by
  refine mk_df (d := d_is_turn_of) X G sc_is_turn_of (fun _ _ _ _ _ _ us hl => match us, hl with | [_, _], _ => rfl) (fun K kV dc pm an cd ct a ks hm perm hp => ?_) a l c k
  rw [show kwFor g.kws d_is_turn_of.name = _ from kw_is_turn_of] at hm
  cases hm
theorem kw_is_turn : kwFor g.kws "is_turn" = [(0, [("many" : Str), ("value" : Str)])] := by decide +kernel
theorem sc_is_turn : FnScope d_is_turn.N d_is_turn.ps (defScope s_is_turn) := ⟨rfl, rfl, rfl, by decide +kernel, rfl, by decide +kernel, by decide +kernel⟩
theorem mk_is_turn {K : PySem.W.Frag} {mg : Str → Option Value} {h : Heap} (X : K.In h) (G : h.Ns mainGlobals mg) {f : Addr} {od an : Option Addr} {sl : Array (Option Value)} {oc kV dc pm cd ct : Value}
    (a : PySem.W.nsIn K mainGlobals "is_turn" = some (some (.ref f))) (l : K.lookup f = some ⟨oc, od, .func (PySem.W.fnOf "is_turn" "is_turn" (defArgs s_is_turn) (defBody s_is_turn) (defScope s_is_turn) .none kV dc pm an cd ct), sl⟩)
    (c : PySem.W.codeIn K cd "is_turn" = true) (k : PySem.W.keepIn K (.ref f) = true) : ∃ f fd, DfOk K mg g.kws d_is_turn f fd := by
  refine mk_df (d := d_is_turn) X G sc_is_turn (fun _ _ _ _ _ _ us hl => match us, hl with | [_, _], _ => rfl) (fun K kV dc pm an cd ct a ks hm perm hp => ?_) a l c k
  rw [show kwFor g.kws d_is_turn.name = _ from kw_is_turn] at hm
  have e := List.mem_singleton.mp hm
  cases e
  have e : permOf d_is_turn.ps 0 [("many" : Str), ("value" : Str)] = some [0, 1] := by decide +kernel
  rw [e] at hp
  cases hp
  intro s us ws hk h1 h2
  exact match us, ws, h1, h2 with | [], [_, _], _, _ => .of_eq rfl
theorem kw_check_turn : kwFor g.kws "check_turn" = [] := by decide +kernel
theorem sc_check_turn : FnScope d_check_turn.N d_check_turn.ps (defScope s_check_turn) := ⟨rfl, rfl, rfl, by decide +kernel, rfl, by decide +kernel, by decide +kernel⟩
theorem mk_check_turn {K : PySem.W.Frag} {mg : Str → Option Value} {h : Heap} (X : K.In h) (G : h.Ns mainGlobals mg) {f : Addr} {od an : Option Addr} {sl : Array (Option Value)} {oc kV dc pm cd ct : Value}
    (a : PySem.W.nsIn K mainGlobals "check_turn" = some (some (.ref f))) (l : K.lookup f = some ⟨oc, od, .func (PySem.W.fnOf "check_turn" "check_turn" (defArgs s_check_turn) (defBody s_check_turn) (defScope s_check_turn) .none kV dc pm an cd ct), sl⟩)
    (c : PySem.W.codeIn K cd "check_turn" = true) (k : PySem.W.keepIn K (.ref f) = true) : ∃ f fd, DfOk K mg g.kws d_check_turn f fd := by
  refine mk_df (d := d_check_turn) X G sc_check_turn (fun _ _ _ _ _ _ us hl => match us, hl with | [_], _ => rfl) (fun K kV dc pm an cd ct a ks hm perm hp => ?_) a l c k
  rw [show kwFor g.kws d_check_turn.name = _ from kw_check_turn] at hm
  cases hm
theorem kw_check_both_turns : kwFor g.kws "check_both_turns" = [] := by decide +kernel
theorem sc_check_both_turns : FnScope d_check_both_turns.N d_check_both_turns.ps (defScope s_check_both_turns) := ⟨rfl, rfl, rfl, by decide +kernel, rfl, by decide +kernel, by decide +kernel⟩
theorem mk_check_both_turns {K : PySem.W.Frag} {mg : Str → Option Value} {h : Heap} (X : K.In h) (G : h.Ns mainGlobals mg) {f : Addr} {od an : Option Addr} {sl : Array (Option Value)} {oc kV dc pm cd ct : Value}
    (a : PySem.W.nsIn K mainGlobals "check_both_turns" = some (some (.ref f))) (l : K.lookup f = some ⟨oc, od, .func (PySem.W.fnOf "check_both_turns" "check_both_turns" (defArgs s_check_both_turns) (defBody s_check_both_turns) (defScope s_check_both_turns) .none kV dc pm an cd ct), sl⟩)
    (c : PySem.W.codeIn K cd "check_both_turns" = true) (k : PySem.W.keepIn K (.ref f) = true) : ∃ f fd, DfOk K mg g.kws d_check_both_turns f fd := by
  refine mk_df (d := d_check_both_turns) X G sc_check_both_turns (fun _ _ _ _ _ _ us hl => match us, hl with | [_, _], _ => rfl) (fun K kV dc pm an cd ct a ks hm perm hp => ?_) a l c k
  rw [show kwFor g.kws d_check_both_turns.name = _ from kw_check_both_turns] at hm
  cases hm
theorem kw_still_of : kwFor g.kws "still_of" = [] := by decide +kernel
theorem sc_still_of : FnScope d_still_of.N d_still_of.ps (defScope s_still_of) := ⟨rfl, rfl, rfl, by decide +kernel, rfl, by decide +kernel, by decide +kernel⟩
theorem mk_still_of {K : PySem.W.Frag} {mg : Str → Option Value} {h : Heap} (X : K.In h) (G : h.Ns mainGlobals mg) {f : Addr} {od an : Option Addr} {sl : Array (Option Value)} {oc kV dc pm cd ct : Value}
    (a : PySem.W.nsIn K mainGlobals "still_of" = some (some (.ref f))) (l : K.lookup f = some ⟨oc, od, .func (PySem.W.fnOf "still_of" "still_of" (defArgs s_still_of) (defBody s_still_of) (defScope s_still_of) .none kV dc pm an cd ct), sl⟩)
    (c : PySem.W.codeIn K cd "still_of" = true) (k : PySem.W.keepIn K (.ref f) = true) : ∃ f fd, DfOk K mg g.kws d_still_of f fd := by
  refine mk_df (d := d_still_of) X G sc_still_of (fun _ _ _ _ _ _ us hl => match us, hl with | [_], _ => rfl) (fun K kV dc pm an cd ct a ks hm perm hp => ?_) a l c k
  rw [show kwFor g.kws d_still_of.name = _ from kw_still_of] at hm
  cases hm
theorem kw_still : kwFor g.kws "still" = [(0, [("many" : Str)])] := by decide +kernel
theorem sc_still : FnScope d_still.N d_still.ps (defScope s_still) := ⟨rfl, rfl, rfl, by decide +kernel, rfl, by decide +kernel, by decide +kernel⟩
theorem mk_still {K : PySem.W.Frag} {mg : Str → Option Value} {h : Heap} (X : K.In h) (G : h.Ns mainGlobals mg) {f : Addr} {od an : Option Addr} {sl : Array (Option Value)} {oc kV dc pm cd ct : Value}
    (a : PySem.W.nsIn K mainGlobals "still" = some (some (.ref f))) (l : K.lookup f = some ⟨oc, od, .func (PySem.W.fnOf "still" "still" (defArgs s_still) (defBody s_still) (defScope s_still) .none kV dc pm an cd ct), sl⟩)
    (c : PySem.W.codeIn K cd "still" = true) (k : PySem.W.keepIn K (.ref f) = true) : ∃ f fd, DfOk K mg g.kws d_still f fd := by
  refine mk_df (d := d_still) X G sc_still (fun _ _ _ _ _ _ us hl => match us, hl with | [_], _ => rfl) (fun K kV dc pm an cd ct a ks hm perm hp => ?_) a l c k
  rw [show kwFor g.kws d_still.name = _ from kw_still] at hm
  have e := List.mem_singleton.mp hm
  cases e
  have e : permOf d_still.ps 0 [("many" : Str)] = some [0] := by decide +kernel
  rw [e] at hp
  cases hp
  intro s us ws hk h1 h2
  exact match us, ws, h1, h2 with | [], [_], _, _ => .of_eq rfl
theorem kw_then : kwFor g.kws "then" = [] := by decide +kernel
theorem sc_then : FnScope d_then.N d_then.ps (defScope s_then) := ⟨rfl, rfl, rfl, by decide +kernel, rfl, by decide +kernel, by decide +kernel⟩
theorem mk_then {K : PySem.W.Frag} {mg : Str → Option Value} {h : Heap} (X : K.In h) (G : h.Ns mainGlobals mg) {f : Addr} {od an : Option Addr} {sl : Array (Option Value)} {oc kV dc pm cd ct : Value}
    (a : PySem.W.nsIn K mainGlobals "then" = some (some (.ref f))) (l : K.lookup f = some ⟨oc, od, .func (PySem.W.fnOf "then" "then" (defArgs s_then) (defBody s_then) (defScope s_then) .none kV dc pm an cd ct), sl⟩)
    (c : PySem.W.codeIn K cd "then" = true) (k : PySem.W.keepIn K (.ref f) = true) : ∃ f fd, DfOk K mg g.kws d_then f fd := by
  refine mk_df (d := d_then) X G sc_then (fun _ _ _ _ _ _ us hl => match us, hl with | [_, _], _ => rfl) (fun K kV dc pm an cd ct a ks hm perm hp => ?_) a l c k
  rw [show kwFor g.kws d_then.name = _ from kw_then] at hm
  cases hm
theorem kw_behind : kwFor g.kws "behind" = [(0, [("one" : Str), ("other" : Str)])] := by decide +kernel
theorem sc_behind : FnScope d_behind.N d_behind.ps (defScope s_behind) := ⟨rfl, rfl, rfl, by decide +kernel, rfl, by decide +kernel, by decide +kernel⟩
theorem mk_behind {K : PySem.W.Frag} {mg : Str → Option Value} {h : Heap} (X : K.In h) (G : h.Ns mainGlobals mg) {f : Addr} {od an : Option Addr} {sl : Array (Option Value)} {oc kV dc pm cd ct : Value}
    (a : PySem.W.nsIn K mainGlobals "behind" = some (some (.ref f))) (l : K.lookup f = some ⟨oc, od, .func (PySem.W.fnOf "behind" "behind" (defArgs s_behind) (defBody s_behind) (defScope s_behind) .none kV dc pm an cd ct), sl⟩)
    (c : PySem.W.codeIn K cd "behind" = true) (k : PySem.W.keepIn K (.ref f) = true) : ∃ f fd, DfOk K mg g.kws d_behind f fd := by
  refine mk_df (d := d_behind) X G sc_behind (fun _ _ _ _ _ _ us hl => match us, hl with | [_, _], _ => rfl) (fun K kV dc pm an cd ct a ks hm perm hp => ?_) a l c k
  rw [show kwFor g.kws d_behind.name = _ from kw_behind] at hm
  have e := List.mem_singleton.mp hm
  cases e
  have e : permOf d_behind.ps 0 [("one" : Str), ("other" : Str)] = some [0, 1] := by decide +kernel
  rw [e] at hp
  cases hp
  intro s us ws hk h1 h2
  exact match us, ws, h1, h2 with | [], [_, _], _, _ => .of_eq rfl
theorem kw_back_of : kwFor g.kws "back_of" = [] := by decide +kernel
theorem sc_back_of : FnScope d_back_of.N d_back_of.ps (defScope s_back_of) := ⟨rfl, rfl, rfl, by decide +kernel, rfl, by decide +kernel, by decide +kernel⟩
theorem mk_back_of {K : PySem.W.Frag} {mg : Str → Option Value} {h : Heap} (X : K.In h) (G : h.Ns mainGlobals mg) {f : Addr} {od an : Option Addr} {sl : Array (Option Value)} {oc kV dc pm cd ct : Value}
    (a : PySem.W.nsIn K mainGlobals "back_of" = some (some (.ref f))) (l : K.lookup f = some ⟨oc, od, .func (PySem.W.fnOf "back_of" "back_of" (defArgs s_back_of) (defBody s_back_of) (defScope s_back_of) .none kV dc pm an cd ct), sl⟩)
    (c : PySem.W.codeIn K cd "back_of" = true) (k : PySem.W.keepIn K (.ref f) = true) : ∃ f fd, DfOk K mg g.kws d_back_of f fd := by
  refine mk_df (d := d_back_of) X G sc_back_of (fun _ _ _ _ _ _ us hl => match us, hl with | [_], _ => rfl) (fun K kV dc pm an cd ct a ks hm perm hp => ?_) a l c k
  rw [show kwFor g.kws d_back_of.name = _ from kw_back_of] at hm
  cases hm
theorem kw_back : kwFor g.kws "back" = [(0, [("turn" : Str)])] := by decide +kernel
theorem sc_back : FnScope d_back.N d_back.ps (defScope s_back) := ⟨rfl, rfl, rfl, by decide +kernel, rfl, by decide +kernel, by decide +kernel⟩
theorem mk_back {K : PySem.W.Frag} {mg : Str → Option Value} {h : Heap} (X : K.In h) (G : h.Ns mainGlobals mg) {f : Addr} {od an : Option Addr} {sl : Array (Option Value)} {oc kV dc pm cd ct : Value}
    (a : PySem.W.nsIn K mainGlobals "back" = some (some (.ref f))) (l : K.lookup f = some ⟨oc, od, .func (PySem.W.fnOf "back" "back" (defArgs s_back) (defBody s_back) (defScope s_back) .none kV dc pm an cd ct), sl⟩)
    (c : PySem.W.codeIn K cd "back" = true) (k : PySem.W.keepIn K (.ref f) = true) : ∃ f fd, DfOk K mg g.kws d_back f fd := by
  refine mk_df (d := d_back) X G sc_back (fun _ _ _ _ _ _ us hl => match us, hl with | [_], _ => rfl) (fun K kV dc pm an cd ct a ks hm perm hp => ?_) a l c k
  rw [show kwFor g.kws d_back.name = _ from kw_back] at hm
  have e := List.mem_singleton.mp hm
  cases e
  have e : permOf d_back.ps 0 [("turn" : Str)] = some [0] := by decide +kernel
  rw [e] at hp
  cases hp
  intro s us ws hk h1 h2
  exact match us, ws, h1, h2 with | [], [_], _, _ => .of_eq rfl
theorem kw_times : kwFor g.kws "times" = [(0, [("number" : Str), ("turn" : Str)])] := by decide +kernel
theorem sc_times : FnScope d_times.N d_times.ps (defScope s_times) := ⟨rfl, rfl, rfl, by decide +kernel, rfl, by decide +kernel, by decide +kernel⟩
theorem mk_times {K : PySem.W.Frag} {mg : Str → Option Value} {h : Heap} (X : K.In h) (G : h.Ns mainGlobals mg) {f : Addr} {od an : Option Addr} {sl : Array (Option Value)} {oc kV dc pm cd ct : Value}
    (a : PySem.W.nsIn K mainGlobals "times" = some (some (.ref f))) (l : K.lookup f = some ⟨oc, od, .func (PySem.W.fnOf "times" "times" (defArgs s_times) (defBody s_times) (defScope s_times) .none kV dc pm an cd ct), sl⟩)
    (c : PySem.W.codeIn K cd "times" = true) (k : PySem.W.keepIn K (.ref f) = true) : ∃ f fd, DfOk K mg g.kws d_times f fd := by
  refine mk_df (d := d_times) X G sc_times (fun _ _ _ _ _ _ us hl => match us, hl with | [_, _], _ => rfl) (fun K kV dc pm an cd ct a ks hm perm hp => ?_) a l c k
  rw [show kwFor g.kws d_times.name = _ from kw_times] at hm
  have e := List.mem_singleton.mp hm
  cases e
  have e : permOf d_times.ps 0 [("number" : Str), ("turn" : Str)] = some [1, 0] := by decide +kernel
  rw [e] at hp
  cases hp
  intro s us ws hk h1 h2
  exact match us, ws, h1, h2 with | [], [_, _], _, _ => .of_eq rfl
theorem kw_turned_by : kwFor g.kws "turned_by" = [(0, [("one" : Str), ("other" : Str)])] := by decide +kernel
theorem sc_turned_by : FnScope d_turned_by.N d_turned_by.ps (defScope s_turned_by) := ⟨rfl, rfl, rfl, by decide +kernel, rfl, by decide +kernel, by decide +kernel⟩
theorem mk_turned_by {K : PySem.W.Frag} {mg : Str → Option Value} {h : Heap} (X : K.In h) (G : h.Ns mainGlobals mg) {f : Addr} {od an : Option Addr} {sl : Array (Option Value)} {oc kV dc pm cd ct : Value}
    (a : PySem.W.nsIn K mainGlobals "turned_by" = some (some (.ref f))) (l : K.lookup f = some ⟨oc, od, .func (PySem.W.fnOf "turned_by" "turned_by" (defArgs s_turned_by) (defBody s_turned_by) (defScope s_turned_by) .none kV dc pm an cd ct), sl⟩)
    (c : PySem.W.codeIn K cd "turned_by" = true) (k : PySem.W.keepIn K (.ref f) = true) : ∃ f fd, DfOk K mg g.kws d_turned_by f fd := by
  refine mk_df (d := d_turned_by) X G sc_turned_by (fun _ _ _ _ _ _ us hl => match us, hl with | [_, _], _ => rfl) (fun K kV dc pm an cd ct a ks hm perm hp => ?_) a l c k
  rw [show kwFor g.kws d_turned_by.name = _ from kw_turned_by] at hm
  have e := List.mem_singleton.mp hm
  cases e
  have e : permOf d_turned_by.ps 0 [("one" : Str), ("other" : Str)] = some [0, 1] := by decide +kernel
  rw [e] at hp
  cases hp
  intro s us ws hk h1 h2
  exact match us, ws, h1, h2 with | [], [_, _], _, _ => .of_eq rfl
theorem kw_rounds_in : kwFor g.kws "rounds_in" = [] := by decide +kernel
theorem sc_rounds_in : FnScope d_rounds_in.N d_rounds_in.ps (defScope s_rounds_in) := ⟨rfl, rfl, rfl, by decide +kernel, rfl, by decide +kernel, by decide +kernel⟩
theorem mk_rounds_in {K : PySem.W.Frag} {mg : Str → Option Value} {h : Heap} (X : K.In h) (G : h.Ns mainGlobals mg) {f : Addr} {od an : Option Addr} {sl : Array (Option Value)} {oc kV dc pm cd ct : Value}
    (a : PySem.W.nsIn K mainGlobals "rounds_in" = some (some (.ref f))) (l : K.lookup f = some ⟨oc, od, .func (PySem.W.fnOf "rounds_in" "rounds_in" (defArgs s_rounds_in) (defBody s_rounds_in) (defScope s_rounds_in) .none kV dc pm an cd ct), sl⟩)
    (c : PySem.W.codeIn K cd "rounds_in" = true) (k : PySem.W.keepIn K (.ref f) = true) : ∃ f fd, DfOk K mg g.kws d_rounds_in f fd := by
  refine mk_df (d := d_rounds_in) X G sc_rounds_in (fun _ _ _ _ _ _ us hl => match us, hl with | [_], _ => rfl) (fun K kV dc pm an cd ct a ks hm perm hp => ?_) a l c k
  rw [show kwFor g.kws d_rounds_in.name = _ from kw_rounds_in] at hm
  cases hm
theorem kw_rounds_of : kwFor g.kws "rounds_of" = [(0, [("turn" : Str)])] := by decide +kernel
theorem sc_rounds_of : FnScope d_rounds_of.N d_rounds_of.ps (defScope s_rounds_of) := ⟨rfl, rfl, rfl, by decide +kernel, rfl, by decide +kernel, by decide +kernel⟩
theorem mk_rounds_of {K : PySem.W.Frag} {mg : Str → Option Value} {h : Heap} (X : K.In h) (G : h.Ns mainGlobals mg) {f : Addr} {od an : Option Addr} {sl : Array (Option Value)} {oc kV dc pm cd ct : Value}
    (a : PySem.W.nsIn K mainGlobals "rounds_of" = some (some (.ref f))) (l : K.lookup f = some ⟨oc, od, .func (PySem.W.fnOf "rounds_of" "rounds_of" (defArgs s_rounds_of) (defBody s_rounds_of) (defScope s_rounds_of) .none kV dc pm an cd ct), sl⟩)
    (c : PySem.W.codeIn K cd "rounds_of" = true) (k : PySem.W.keepIn K (.ref f) = true) : ∃ f fd, DfOk K mg g.kws d_rounds_of f fd := by
  refine mk_df (d := d_rounds_of) X G sc_rounds_of (fun _ _ _ _ _ _ us hl => match us, hl with | [_], _ => rfl) (fun K kV dc pm an cd ct a ks hm perm hp => ?_) a l c k
  rw [show kwFor g.kws d_rounds_of.name = _ from kw_rounds_of] at hm
  have e := List.mem_singleton.mp hm
  cases e
  have e : permOf d_rounds_of.ps 0 [("turn" : Str)] = some [0] := by decide +kernel
  rw [e] at hp
  cases hp
  intro s us ws hk h1 h2
  exact match us, ws, h1, h2 with | [], [_], _, _ => .of_eq rfl
theorem kw_turn_by_rounds : kwFor g.kws "turn_by_rounds" = [] := by decide +kernel
theorem sc_turn_by_rounds : FnScope d_turn_by_rounds.N d_turn_by_rounds.ps (defScope s_turn_by_rounds) := ⟨rfl, rfl, rfl, by decide +kernel, rfl, by decide +kernel, by decide +kernel⟩
theorem mk_turn_by_rounds {K : PySem.W.Frag} {mg : Str → Option Value} {h : Heap} (X : K.In h) (G : h.Ns mainGlobals mg) {f : Addr} {od an : Option Addr} {sl : Array (Option Value)} {oc kV dc pm cd ct : Value}
    (a : PySem.W.nsIn K mainGlobals "turn_by_rounds" = some (some (.ref f))) (l : K.lookup f = some ⟨oc, od, .func (PySem.W.fnOf "turn_by_rounds" "turn_by_rounds" (defArgs s_turn_by_rounds) (defBody s_turn_by_rounds) (defScope s_turn_by_rounds) .none kV dc pm an cd ct), sl⟩)
    (c : PySem.W.codeIn K cd "turn_by_rounds" = true) (k : PySem.W.keepIn K (.ref f) = true) : ∃ f fd, DfOk K mg g.kws d_turn_by_rounds f fd := by
  refine mk_df (d := d_turn_by_rounds) X G sc_turn_by_rounds (fun _ _ _ _ _ _ us hl => match us, hl with | [_, _], _ => rfl) (fun K kV dc pm an cd ct a ks hm perm hp => ?_) a l c k
  rw [show kwFor g.kws d_turn_by_rounds.name = _ from kw_turn_by_rounds] at hm
  cases hm
theorem kw_are_rounds : kwFor g.kws "are_rounds" = [] := by decide +kernel
theorem sc_are_rounds : FnScope d_are_rounds.N d_are_rounds.ps (defScope s_are_rounds) := ⟨rfl, rfl, rfl, by decide +kernel, rfl, by decide +kernel, by decide +kernel⟩
theorem mk_are_rounds {K : PySem.W.Frag} {mg : Str → Option Value} {h : Heap} (X : K.In h) (G : h.Ns mainGlobals mg) {f : Addr} {od an : Option Addr} {sl : Array (Option Value)} {oc kV dc pm cd ct : Value}
    (a : PySem.W.nsIn K mainGlobals "are_rounds" = some (some (.ref f))) (l : K.lookup f = some ⟨oc, od, .func (PySem.W.fnOf "are_rounds" "are_rounds" (defArgs s_are_rounds) (defBody s_are_rounds) (defScope s_are_rounds) .none kV dc pm an cd ct), sl⟩)
    (c : PySem.W.codeIn K cd "are_rounds" = true) (k : PySem.W.keepIn K (.ref f) = true) : ∃ f fd, DfOk K mg g.kws d_are_rounds f fd := by
  refine mk_df (d := d_are_rounds) X G sc_are_rounds (fun _ _ _ _ _ _ us hl => match us, hl with | [_, _], _ => rfl) (fun K kV dc pm an cd ct a ks hm perm hp => ?_) a l c k
  rw [show kwFor g.kws d_are_rounds.name = _ from kw_are_rounds] at hm
  cases hm
theorem kw_turn_of_rounds : kwFor g.kws "turn_of_rounds" = [(0, [("many" : Str), ("rounds" : Str)])] := by decide +kernel
theorem sc_turn_of_rounds : FnScope d_turn_of_rounds.N d_turn_of_rounds.ps (defScope s_turn_of_rounds) := ⟨rfl, rfl, rfl, by decide +kernel, rfl, by decide +kernel, by decide +kernel⟩
theorem mk_turn_of_rounds {K : PySem.W.Frag} {mg : Str → Option Value} {h : Heap} (X : K.In h) (G : h.Ns mainGlobals mg) {f : Addr} {od an : Option Addr} {sl : Array (Option Value)} {oc kV dc pm cd ct : Value}
    (a : PySem.W.nsIn K mainGlobals "turn_of_rounds" = some (some (.ref f))) (l : K.lookup f = some ⟨oc, od, .func (PySem.W.fnOf "turn_of_rounds" "turn_of_rounds" (defArgs s_turn_of_rounds) (defBody s_turn_of_rounds) (defScope s_turn_of_rounds) .none kV dc pm an cd ct), sl⟩)
    (c : PySem.W.codeIn K cd "turn_of_rounds" = true) (k : PySem.W.keepIn K (.ref f) = true) : ∃ f fd, DfOk K mg g.kws d_turn_of_rounds f fd := by
  refine mk_df (d := d_turn_of_rounds) X G sc_turn_of_rounds (fun _ _ _ _ _ _ us hl => match us, hl with | [_, _], _ => rfl) (fun K kV dc pm an cd ct a ks hm perm hp => ?_) a l c k
  rw [show kwFor g.kws d_turn_of_rounds.name = _ from kw_turn_of_rounds] at hm
  have e := List.mem_singleton.mp hm
  cases e
  have e : permOf d_turn_of_rounds.ps 0 [("many" : Str), ("rounds" : Str)] = some [0, 1] := by decide +kernel
  rw [e] at hp
  cases hp
  intro s us ws hk h1 h2
  exact match us, ws, h1, h2 with | [], [_, _], _, _ => .of_eq rfl
theorem kw_common : kwFor g.kws "common" = [] := by decide +kernel
theorem sc_common : FnScope d_common.N d_common.ps (defScope s_common) := ⟨rfl, rfl, rfl, by decide +kernel, rfl, by decide +kernel, by decide +kernel⟩
theorem mk_common {K : PySem.W.Frag} {mg : Str → Option Value} {h : Heap} (X : K.In h) (G : h.Ns mainGlobals mg) {f : Addr} {od an : Option Addr} {sl : Array (Option Value)} {oc kV dc pm cd ct : Value}
    (a : PySem.W.nsIn K mainGlobals "common" = some (some (.ref f))) (l : K.lookup f = some ⟨oc, od, .func (PySem.W.fnOf "common" "common" (defArgs s_common) (defBody s_common) (defScope s_common) .none kV dc pm an cd ct), sl⟩)
    (c : PySem.W.codeIn K cd "common" = true) (k : PySem.W.keepIn K (.ref f) = true) : ∃ f fd, DfOk K mg g.kws d_common f fd := by
  refine mk_df (d := d_common) X G sc_common (fun _ _ _ _ _ _ us hl => match us, hl with | [_, _], _ => rfl) (fun K kV dc pm an cd ct a ks hm perm hp => ?_) a l c k
  rw [show kwFor g.kws d_common.name = _ from kw_common] at hm
  cases hm
theorem kw_order_in : kwFor g.kws "order_in" = [] := by decide +kernel
theorem sc_order_in : FnScope d_order_in.N d_order_in.ps (defScope s_order_in) := ⟨rfl, rfl, rfl, by decide +kernel, rfl, by decide +kernel, by decide +kernel⟩
theorem mk_order_in {K : PySem.W.Frag} {mg : Str → Option Value} {h : Heap} (X : K.In h) (G : h.Ns mainGlobals mg) {f : Addr} {od an : Option Addr} {sl : Array (Option Value)} {oc kV dc pm cd ct : Value}
    (a : PySem.W.nsIn K mainGlobals "order_in" = some (some (.ref f))) (l : K.lookup f = some ⟨oc, od, .func (PySem.W.fnOf "order_in" "order_in" (defArgs s_order_in) (defBody s_order_in) (defScope s_order_in) .none kV dc pm an cd ct), sl⟩)
    (c : PySem.W.codeIn K cd "order_in" = true) (k : PySem.W.keepIn K (.ref f) = true) : ∃ f fd, DfOk K mg g.kws d_order_in f fd := by
  refine mk_df (d := d_order_in) X G sc_order_in (fun _ _ _ _ _ _ us hl => match us, hl with | [_], _ => rfl) (fun K kV dc pm an cd ct a ks hm perm hp => ?_) a l c k
  rw [show kwFor g.kws d_order_in.name = _ from kw_order_in] at hm
  cases hm
theorem kw_order_of : kwFor g.kws "order_of" = [(0, [("turn" : Str)])] := by decide +kernel
theorem sc_order_of : FnScope d_order_of.N d_order_of.ps (defScope s_order_of) := ⟨rfl, rfl, rfl, by decide +kernel, rfl, by decide +kernel, by decide +kernel⟩
theorem mk_order_of {K : PySem.W.Frag} {mg : Str → Option Value} {h : Heap} (X : K.In h) (G : h.Ns mainGlobals mg) {f : Addr} {od an : Option Addr} {sl : Array (Option Value)} {oc kV dc pm cd ct : Value}
    (a : PySem.W.nsIn K mainGlobals "order_of" = some (some (.ref f))) (l : K.lookup f = some ⟨oc, od, .func (PySem.W.fnOf "order_of" "order_of" (defArgs s_order_of) (defBody s_order_of) (defScope s_order_of) .none kV dc pm an cd ct), sl⟩)
    (c : PySem.W.codeIn K cd "order_of" = true) (k : PySem.W.keepIn K (.ref f) = true) : ∃ f fd, DfOk K mg g.kws d_order_of f fd := by
  refine mk_df (d := d_order_of) X G sc_order_of (fun _ _ _ _ _ _ us hl => match us, hl with | [_], _ => rfl) (fun K kV dc pm an cd ct a ks hm perm hp => ?_) a l c k
  rw [show kwFor g.kws d_order_of.name = _ from kw_order_of] at hm
  have e := List.mem_singleton.mp hm
  cases e
  have e : permOf d_order_of.ps 0 [("turn" : Str)] = some [0] := by decide +kernel
  rw [e] at hp
  cases hp
  intro s us ws hk h1 h2
  exact match us, ws, h1, h2 with | [], [_], _, _ => .of_eq rfl
theorem kw_is_even_of : kwFor g.kws "is_even_of" = [] := by decide +kernel
theorem sc_is_even_of : FnScope d_is_even_of.N d_is_even_of.ps (defScope s_is_even_of) := ⟨rfl, rfl, rfl, by decide +kernel, rfl, by decide +kernel, by decide +kernel⟩
theorem mk_is_even_of {K : PySem.W.Frag} {mg : Str → Option Value} {h : Heap} (X : K.In h) (G : h.Ns mainGlobals mg) {f : Addr} {od an : Option Addr} {sl : Array (Option Value)} {oc kV dc pm cd ct : Value}
    (a : PySem.W.nsIn K mainGlobals "is_even_of" = some (some (.ref f))) (l : K.lookup f = some ⟨oc, od, .func (PySem.W.fnOf "is_even_of" "is_even_of" (defArgs s_is_even_of) (defBody s_is_even_of) (defScope s_is_even_of) .none kV dc pm an cd ct), sl⟩)
    (c : PySem.W.codeIn K cd "is_even_of" = true) (k : PySem.W.keepIn K (.ref f) = true) : ∃ f fd, DfOk K mg g.kws d_is_even_of f fd := by
  refine mk_df (d := d_is_even_of) X G sc_is_even_of (fun _ _ _ _ _ _ us hl => match us, hl with | [_], _ => rfl) (fun K kV dc pm an cd ct a ks hm perm hp => ?_) a l c k
  rw [show kwFor g.kws d_is_even_of.name = _ from kw_is_even_of] at hm
  cases hm
theorem kw_is_even : kwFor g.kws "is_even" = [(0, [("turn" : Str)])] := by decide +kernel
theorem sc_is_even : FnScope d_is_even.N d_is_even.ps (defScope s_is_even) := ⟨rfl, rfl, rfl, by decide +kernel, rfl, by decide +kernel, by decide +kernel⟩
theorem mk_is_even {K : PySem.W.Frag} {mg : Str → Option Value} {h : Heap} (X : K.In h) (G : h.Ns mainGlobals mg) {f : Addr} {od an : Option Addr} {sl : Array (Option Value)} {oc kV dc pm cd ct : Value}
    (a : PySem.W.nsIn K mainGlobals "is_even" = some (some (.ref f))) (l : K.lookup f = some ⟨oc, od, .func (PySem.W.fnOf "is_even" "is_even" (defArgs s_is_even) (defBody s_is_even) (defScope s_is_even) .none kV dc pm an cd ct), sl⟩)
    (c : PySem.W.codeIn K cd "is_even" = true) (k : PySem.W.keepIn K (.ref f) = true) : ∃ f fd, DfOk K mg g.kws d_is_even f fd := by
  refine mk_df (d := d_is_even) X G sc_is_even (fun _ _ _ _ _ _ us hl => match us, hl with | [_], _ => rfl) (fun K kV dc pm an cd ct a ks hm perm hp => ?_) a l c k
  rw [show kwFor g.kws d_is_even.name = _ from kw_is_even] at hm
  have e := List.mem_singleton.mp hm
  cases e
  have e : permOf d_is_even.ps 0 [("turn" : Str)] = some [0] := by decide +kernel
  rw [e] at hp
  cases hp
  intro s us ws hk h1 h2
  exact match us, ws, h1, h2 with | [], [_], _, _ => .of_eq rfl
theorem kw_row_moved : kwFor g.kws "row_moved" = [] := by decide +kernel
theorem sc_row_moved : FnScope d_row_moved.N d_row_moved.ps (defScope s_row_moved) := ⟨rfl, rfl, rfl, by decide +kernel, rfl, by decide +kernel, by decide +kernel⟩
theorem mk_row_moved {K : PySem.W.Frag} {mg : Str → Option Value} {h : Heap} (X : K.In h) (G : h.Ns mainGlobals mg) {f : Addr} {od an : Option Addr} {sl : Array (Option Value)} {oc kV dc pm cd ct : Value}
    (a : PySem.W.nsIn K mainGlobals "row_moved" = some (some (.ref f))) (l : K.lookup f = some ⟨oc, od, .func (PySem.W.fnOf "row_moved" "row_moved" (defArgs s_row_moved) (defBody s_row_moved) (defScope s_row_moved) .none kV dc pm an cd ct), sl⟩)
    (c : PySem.W.codeIn K cd "row_moved" = true) (k : PySem.W.keepIn K (.ref f) = true) : ∃ f fd, DfOk K mg g.kws d_row_moved f fd := by
  refine mk_df (d := d_row_moved) X G sc_row_moved (fun _ _ _ _ _ _ us hl => match us, hl with | [_, _], _ => rfl) (fun K kV dc pm an cd ct a ks hm perm hp => ?_) a l c k
  rw [show kwFor g.kws d_row_moved.name = _ from kw_row_moved] at hm
  cases hm
theorem kw_moved : kwFor g.kws "moved" = [(0, [("row" : Str), ("turn" : Str)])] := by decide +kernel
theorem sc_moved : FnScope d_moved.N d_moved.ps (defScope s_moved) := ⟨rfl, rfl, rfl, by decide +kernel, rfl, by decide +kernel, by decide +kernel⟩
theorem mk_moved {K : PySem.W.Frag} {mg : Str → Option Value} {h : Heap} (X : K.In h) (G : h.Ns mainGlobals mg) {f : Addr} {od an : Option Addr} {sl : Array (Option Value)} {oc kV dc pm cd ct : Value}
    (a : PySem.W.nsIn K mainGlobals "moved" = some (some (.ref f))) (l : K.lookup f = some ⟨oc, od, .func (PySem.W.fnOf "moved" "moved" (defArgs s_moved) (defBody s_moved) (defScope s_moved) .none kV dc pm an cd ct), sl⟩)
    (c : PySem.W.codeIn K cd "moved" = true) (k : PySem.W.keepIn K (.ref f) = true) : ∃ f fd, DfOk K mg g.kws d_moved f fd := by
  refine mk_df (d := d_moved) X G sc_moved (fun _ _ _ _ _ _ us hl => match us, hl with | [_, _], _ => rfl) (fun K kV dc pm an cd ct a ks hm perm hp => ?_) a l c k
  rw [show kwFor g.kws d_moved.name = _ from kw_moved] at hm
  have e := List.mem_singleton.mp hm
  cases e
  have e : permOf d_moved.ps 0 [("row" : Str), ("turn" : Str)] = some [1, 0] := by decide +kernel
  rw [e] at hp
  cases hp
  intro s us ws hk h1 h2
  exact match us, ws, h1, h2 with | [], [_, _], _, _ => .of_eq rfl
theorem kw__law_pot : kwFor g.kws "_law_pot" = [] := by decide +kernel
theorem sc__law_pot : FnScope d__law_pot.N d__law_pot.ps (defScope s__law_pot) := ⟨rfl, rfl, rfl, by decide +kernel, rfl, by decide +kernel, by decide +kernel⟩
theorem mk__law_pot {K : PySem.W.Frag} {mg : Str → Option Value} {h : Heap} (X : K.In h) (G : h.Ns mainGlobals mg) {f : Addr} {od an : Option Addr} {sl : Array (Option Value)} {oc kV dc pm cd ct : Value}
    (a : PySem.W.nsIn K mainGlobals "_law_pot" = some (some (.ref f))) (l : K.lookup f = some ⟨oc, od, .func (PySem.W.fnOf "_law_pot" "_law_pot" (defArgs s__law_pot) (defBody s__law_pot) (defScope s__law_pot) .none kV dc pm an cd ct), sl⟩)
    (c : PySem.W.codeIn K cd "_law_pot" = true) (k : PySem.W.keepIn K (.ref f) = true) : ∃ f fd, DfOk K mg g.kws d__law_pot f fd := by
  refine mk_df (d := d__law_pot) X G sc__law_pot (fun _ _ _ _ _ _ us hl => match us, hl with | [_, _], _ => rfl) (fun K kV dc pm an cd ct a ks hm perm hp => ?_) a l c k
  rw [show kwFor g.kws d__law_pot.name = _ from kw__law_pot] at hm
  cases hm
theorem kw__law_take : kwFor g.kws "_law_take" = [] := by decide +kernel
theorem sc__law_take : FnScope d__law_take.N d__law_take.ps (defScope s__law_take) := ⟨rfl, rfl, rfl, by decide +kernel, rfl, by decide +kernel, by decide +kernel⟩
theorem mk__law_take {K : PySem.W.Frag} {mg : Str → Option Value} {h : Heap} (X : K.In h) (G : h.Ns mainGlobals mg) {f : Addr} {od an : Option Addr} {sl : Array (Option Value)} {oc kV dc pm cd ct : Value}
    (a : PySem.W.nsIn K mainGlobals "_law_take" = some (some (.ref f))) (l : K.lookup f = some ⟨oc, od, .func (PySem.W.fnOf "_law_take" "_law_take" (defArgs s__law_take) (defBody s__law_take) (defScope s__law_take) .none kV dc pm an cd ct), sl⟩)
    (c : PySem.W.codeIn K cd "_law_take" = true) (k : PySem.W.keepIn K (.ref f) = true) : ∃ f fd, DfOk K mg g.kws d__law_take f fd := by
  refine mk_df (d := d__law_take) X G sc__law_take (fun _ _ _ _ _ _ us hl => match us, hl with | [_, _], _ => rfl) (fun K kV dc pm an cd ct a ks hm perm hp => ?_) a l c k
  rw [show kwFor g.kws d__law_take.name = _ from kw__law_take] at hm
  cases hm
theorem kw__law_of : kwFor g.kws "_law_of" = [] := by decide +kernel
theorem sc__law_of : FnScope d__law_of.N d__law_of.ps (defScope s__law_of) := ⟨rfl, rfl, rfl, by decide +kernel, rfl, by decide +kernel, by decide +kernel⟩
theorem mk__law_of {K : PySem.W.Frag} {mg : Str → Option Value} {h : Heap} (X : K.In h) (G : h.Ns mainGlobals mg) {f : Addr} {od an : Option Addr} {sl : Array (Option Value)} {oc kV dc pm cd ct : Value}
    (a : PySem.W.nsIn K mainGlobals "_law_of" = some (some (.ref f))) (l : K.lookup f = some ⟨oc, od, .func (PySem.W.fnOf "_law_of" "_law_of" (defArgs s__law_of) (defBody s__law_of) (defScope s__law_of) .none kV dc pm an cd ct), sl⟩)
    (c : PySem.W.codeIn K cd "_law_of" = true) (k : PySem.W.keepIn K (.ref f) = true) : ∃ f fd, DfOk K mg g.kws d__law_of f fd := by
  refine mk_df (d := d__law_of) X G sc__law_of (fun _ _ _ _ _ _ us hl => match us, hl with | [_, _], _ => rfl) (fun K kV dc pm an cd ct a ks hm perm hp => ?_) a l c k
  rw [show kwFor g.kws d__law_of.name = _ from kw__law_of] at hm
  cases hm
theorem kw__law_cells : kwFor g.kws "_law_cells" = [] := by decide +kernel
theorem sc__law_cells : FnScope d__law_cells.N d__law_cells.ps (defScope s__law_cells) := ⟨rfl, rfl, rfl, by decide +kernel, rfl, by decide +kernel, by decide +kernel⟩
theorem mk__law_cells {K : PySem.W.Frag} {mg : Str → Option Value} {h : Heap} (X : K.In h) (G : h.Ns mainGlobals mg) {f : Addr} {od an : Option Addr} {sl : Array (Option Value)} {oc kV dc pm cd ct : Value}
    (a : PySem.W.nsIn K mainGlobals "_law_cells" = some (some (.ref f))) (l : K.lookup f = some ⟨oc, od, .func (PySem.W.fnOf "_law_cells" "_law_cells" (defArgs s__law_cells) (defBody s__law_cells) (defScope s__law_cells) .none kV dc pm an cd ct), sl⟩)
    (c : PySem.W.codeIn K cd "_law_cells" = true) (k : PySem.W.keepIn K (.ref f) = true) : ∃ f fd, DfOk K mg g.kws d__law_cells f fd := by
  refine mk_df (d := d__law_cells) X G sc__law_cells (fun _ _ _ _ _ _ us hl => match us, hl with | [_, _], _ => rfl) (fun K kV dc pm an cd ct a ks hm perm hp => ?_) a l c k
  rw [show kwFor g.kws d__law_cells.name = _ from kw__law_cells] at hm
  cases hm
theorem kw__law_some : kwFor g.kws "_law_some" = [] := by decide +kernel
theorem sc__law_some : FnScope d__law_some.N d__law_some.ps (defScope s__law_some) := ⟨rfl, rfl, rfl, by decide +kernel, rfl, by decide +kernel, by decide +kernel⟩
theorem mk__law_some {K : PySem.W.Frag} {mg : Str → Option Value} {h : Heap} (X : K.In h) (G : h.Ns mainGlobals mg) {f : Addr} {od an : Option Addr} {sl : Array (Option Value)} {oc kV dc pm cd ct : Value}
    (a : PySem.W.nsIn K mainGlobals "_law_some" = some (some (.ref f))) (l : K.lookup f = some ⟨oc, od, .func (PySem.W.fnOf "_law_some" "_law_some" (defArgs s__law_some) (defBody s__law_some) (defScope s__law_some) .none kV dc pm an cd ct), sl⟩)
    (c : PySem.W.codeIn K cd "_law_some" = true) (k : PySem.W.keepIn K (.ref f) = true) : ∃ f fd, DfOk K mg g.kws d__law_some f fd := by
  refine mk_df (d := d__law_some) X G sc__law_some (fun _ _ _ _ _ _ us hl => match us, hl with | [_, _, _], _ => rfl) (fun K kV dc pm an cd ct a ks hm perm hp => ?_) a l c k
  rw [show kwFor g.kws d__law_some.name = _ from kw__law_some] at hm
  cases hm
theorem kw__law_is_int : kwFor g.kws "_law_is_int" = [] := by decide +kernel
theorem sc__law_is_int : FnScope d__law_is_int.N d__law_is_int.ps (defScope s__law_is_int) := ⟨rfl, rfl, rfl, by decide +kernel, rfl, by decide +kernel, by decide +kernel⟩
theorem mk__law_is_int {K : PySem.W.Frag} {mg : Str → Option Value} {h : Heap} (X : K.In h) (G : h.Ns mainGlobals mg) {f : Addr} {od an : Option Addr} {sl : Array (Option Value)} {oc kV dc pm cd ct : Value}
    (a : PySem.W.nsIn K mainGlobals "_law_is_int" = some (some (.ref f))) (l : K.lookup f = some ⟨oc, od, .func (PySem.W.fnOf "_law_is_int" "_law_is_int" (defArgs s__law_is_int) (defBody s__law_is_int) (defScope s__law_is_int) .none kV dc pm an cd ct), sl⟩)
    (c : PySem.W.codeIn K cd "_law_is_int" = true) (k : PySem.W.keepIn K (.ref f) = true) : ∃ f fd, DfOk K mg g.kws d__law_is_int f fd := by
  refine mk_df (d := d__law_is_int) X G sc__law_is_int (fun _ _ _ _ _ _ us hl => match us, hl with | [_], _ => rfl) (fun K kV dc pm an cd ct a ks hm perm hp => ?_) a l c k
  rw [show kwFor g.kws d__law_is_int.name = _ from kw__law_is_int] at hm
  cases hm
theorem kw__law_bent : kwFor g.kws "_law_bent" = [] := by decide +kernel
theorem sc__law_bent : FnScope d__law_bent.N d__law_bent.ps (defScope s__law_bent) := ⟨rfl, rfl, rfl, by decide +kernel, rfl, by decide +kernel, by decide +kernel⟩
theorem mk__law_bent {K : PySem.W.Frag} {mg : Str → Option Value} {h : Heap} (X : K.In h) (G : h.Ns mainGlobals mg) {f : Addr} {od an : Option Addr} {sl : Array (Option Value)} {oc kV dc pm cd ct : Value}
    (a : PySem.W.nsIn K mainGlobals "_law_bent" = some (some (.ref f))) (l : K.lookup f = some ⟨oc, od, .func (PySem.W.fnOf "_law_bent" "_law_bent" (defArgs s__law_bent) (defBody s__law_bent) (defScope s__law_bent) .none kV dc pm an cd ct), sl⟩)
    (c : PySem.W.codeIn K cd "_law_bent" = true) (k : PySem.W.keepIn K (.ref f) = true) : ∃ f fd, DfOk K mg g.kws d__law_bent f fd := by
  refine mk_df (d := d__law_bent) X G sc__law_bent (fun _ _ _ _ _ _ us hl => match us, hl with | [_, _], _ => rfl) (fun K kV dc pm an cd ct a ks hm perm hp => ?_) a l c k
  rw [show kwFor g.kws d__law_bent.name = _ from kw__law_bent] at hm
  cases hm
theorem kw__law_turn : kwFor g.kws "_law_turn" = [] := by decide +kernel
theorem sc__law_turn : FnScope d__law_turn.N d__law_turn.ps (defScope s__law_turn) := ⟨rfl, rfl, rfl, by decide +kernel, rfl, by decide +kernel, by decide +kernel⟩
theorem mk__law_turn {K : PySem.W.Frag} {mg : Str → Option Value} {h : Heap} (X : K.In h) (G : h.Ns mainGlobals mg) {f : Addr} {od an : Option Addr} {sl : Array (Option Value)} {oc kV dc pm cd ct : Value}
    (a : PySem.W.nsIn K mainGlobals "_law_turn" = some (some (.ref f))) (l : K.lookup f = some ⟨oc, od, .func (PySem.W.fnOf "_law_turn" "_law_turn" (defArgs s__law_turn) (defBody s__law_turn) (defScope s__law_turn) .none kV dc pm an cd ct), sl⟩)
    (c : PySem.W.codeIn K cd "_law_turn" = true) (k : PySem.W.keepIn K (.ref f) = true) : ∃ f fd, DfOk K mg g.kws d__law_turn f fd := by
  refine mk_df (d := d__law_turn) X G sc__law_turn (fun _ _ _ _ _ _ us hl => match us, hl with | [_, _], _ => rfl) (fun K kV dc pm an cd ct a ks hm perm hp => ?_) a l c k
  rw [show kwFor g.kws d__law_turn.name = _ from kw__law_turn] at hm
  cases hm
theorem kw__law_then : kwFor g.kws "_law_then" = [] := by decide +kernel
theorem sc__law_then : FnScope d__law_then.N d__law_then.ps (defScope s__law_then) := ⟨rfl, rfl, rfl, by decide +kernel, rfl, by decide +kernel, by decide +kernel⟩
theorem mk__law_then {K : PySem.W.Frag} {mg : Str → Option Value} {h : Heap} (X : K.In h) (G : h.Ns mainGlobals mg) {f : Addr} {od an : Option Addr} {sl : Array (Option Value)} {oc kV dc pm cd ct : Value}
    (a : PySem.W.nsIn K mainGlobals "_law_then" = some (some (.ref f))) (l : K.lookup f = some ⟨oc, od, .func (PySem.W.fnOf "_law_then" "_law_then" (defArgs s__law_then) (defBody s__law_then) (defScope s__law_then) .none kV dc pm an cd ct), sl⟩)
    (c : PySem.W.codeIn K cd "_law_then" = true) (k : PySem.W.keepIn K (.ref f) = true) : ∃ f fd, DfOk K mg g.kws d__law_then f fd := by
  refine mk_df (d := d__law_then) X G sc__law_then (fun _ _ _ _ _ _ us hl => match us, hl with | [_, _], _ => rfl) (fun K kV dc pm an cd ct a ks hm perm hp => ?_) a l c k
  rw [show kwFor g.kws d__law_then.name = _ from kw__law_then] at hm
  cases hm
theorem kw__law_back : kwFor g.kws "_law_back" = [] := by decide +kernel
theorem sc__law_back : FnScope d__law_back.N d__law_back.ps (defScope s__law_back) := ⟨rfl, rfl, rfl, by decide +kernel, rfl, by decide +kernel, by decide +kernel⟩
theorem mk__law_back {K : PySem.W.Frag} {mg : Str → Option Value} {h : Heap} (X : K.In h) (G : h.Ns mainGlobals mg) {f : Addr} {od an : Option Addr} {sl : Array (Option Value)} {oc kV dc pm cd ct : Value}
    (a : PySem.W.nsIn K mainGlobals "_law_back" = some (some (.ref f))) (l : K.lookup f = some ⟨oc, od, .func (PySem.W.fnOf "_law_back" "_law_back" (defArgs s__law_back) (defBody s__law_back) (defScope s__law_back) .none kV dc pm an cd ct), sl⟩)
    (c : PySem.W.codeIn K cd "_law_back" = true) (k : PySem.W.keepIn K (.ref f) = true) : ∃ f fd, DfOk K mg g.kws d__law_back f fd := by
  refine mk_df (d := d__law_back) X G sc__law_back (fun _ _ _ _ _ _ us hl => match us, hl with | [_], _ => rfl) (fun K kV dc pm an cd ct a ks hm perm hp => ?_) a l c k
  rw [show kwFor g.kws d__law_back.name = _ from kw__law_back] at hm
  cases hm
theorem kw__law_rounds : kwFor g.kws "_law_rounds" = [] := by decide +kernel
theorem sc__law_rounds : FnScope d__law_rounds.N d__law_rounds.ps (defScope s__law_rounds) := ⟨rfl, rfl, rfl, by decide +kernel, rfl, by decide +kernel, by decide +kernel⟩
theorem mk__law_rounds {K : PySem.W.Frag} {mg : Str → Option Value} {h : Heap} (X : K.In h) (G : h.Ns mainGlobals mg) {f : Addr} {od an : Option Addr} {sl : Array (Option Value)} {oc kV dc pm cd ct : Value}
    (a : PySem.W.nsIn K mainGlobals "_law_rounds" = some (some (.ref f))) (l : K.lookup f = some ⟨oc, od, .func (PySem.W.fnOf "_law_rounds" "_law_rounds" (defArgs s__law_rounds) (defBody s__law_rounds) (defScope s__law_rounds) .none kV dc pm an cd ct), sl⟩)
    (c : PySem.W.codeIn K cd "_law_rounds" = true) (k : PySem.W.keepIn K (.ref f) = true) : ∃ f fd, DfOk K mg g.kws d__law_rounds f fd := by
  refine mk_df (d := d__law_rounds) X G sc__law_rounds (fun _ _ _ _ _ _ us hl => match us, hl with | [_], _ => rfl) (fun K kV dc pm an cd ct a ks hm perm hp => ?_) a l c k
  rw [show kwFor g.kws d__law_rounds.name = _ from kw__law_rounds] at hm
  cases hm
theorem kw__law_common : kwFor g.kws "_law_common" = [] := by decide +kernel
theorem sc__law_common : FnScope d__law_common.N d__law_common.ps (defScope s__law_common) := ⟨rfl, rfl, rfl, by decide +kernel, rfl, by decide +kernel, by decide +kernel⟩
theorem mk__law_common {K : PySem.W.Frag} {mg : Str → Option Value} {h : Heap} (X : K.In h) (G : h.Ns mainGlobals mg) {f : Addr} {od an : Option Addr} {sl : Array (Option Value)} {oc kV dc pm cd ct : Value}
    (a : PySem.W.nsIn K mainGlobals "_law_common" = some (some (.ref f))) (l : K.lookup f = some ⟨oc, od, .func (PySem.W.fnOf "_law_common" "_law_common" (defArgs s__law_common) (defBody s__law_common) (defScope s__law_common) .none kV dc pm an cd ct), sl⟩)
    (c : PySem.W.codeIn K cd "_law_common" = true) (k : PySem.W.keepIn K (.ref f) = true) : ∃ f fd, DfOk K mg g.kws d__law_common f fd := by
  refine mk_df (d := d__law_common) X G sc__law_common (fun _ _ _ _ _ _ us hl => match us, hl with | [_, _], _ => rfl) (fun K kV dc pm an cd ct a ks hm perm hp => ?_) a l c k
  rw [show kwFor g.kws d__law_common.name = _ from kw__law_common] at hm
  cases hm
theorem kw__law_right : kwFor g.kws "_law_right" = [] := by decide +kernel
theorem sc__law_right : FnScope d__law_right.N d__law_right.ps (defScope s__law_right) := ⟨rfl, rfl, rfl, by decide +kernel, rfl, by decide +kernel, by decide +kernel⟩
theorem mk__law_right {K : PySem.W.Frag} {mg : Str → Option Value} {h : Heap} (X : K.In h) (G : h.Ns mainGlobals mg) {f : Addr} {od an : Option Addr} {sl : Array (Option Value)} {oc kV dc pm cd ct : Value}
    (a : PySem.W.nsIn K mainGlobals "_law_right" = some (some (.ref f))) (l : K.lookup f = some ⟨oc, od, .func (PySem.W.fnOf "_law_right" "_law_right" (defArgs s__law_right) (defBody s__law_right) (defScope s__law_right) .none kV dc pm an cd ct), sl⟩)
    (c : PySem.W.codeIn K cd "_law_right" = true) (k : PySem.W.keepIn K (.ref f) = true) : ∃ f fd, DfOk K mg g.kws d__law_right f fd := by
  refine mk_df (d := d__law_right) X G sc__law_right (fun _ _ _ _ _ _ us hl => match us, hl with | [_], _ => rfl) (fun K kV dc pm an cd ct a ks hm perm hp => ?_) a l c k
  rw [show kwFor g.kws d__law_right.name = _ from kw__law_right] at hm
  cases hm
theorem kw_law : kwFor g.kws "law" = [] := by decide +kernel
theorem sc_law : FnScope d_law.N d_law.ps (defScope s_law) := ⟨rfl, rfl, rfl, by decide +kernel, rfl, by decide +kernel, by decide +kernel⟩
theorem mk_law {K : PySem.W.Frag} {mg : Str → Option Value} {h : Heap} (X : K.In h) (G : h.Ns mainGlobals mg) {f : Addr} {od an : Option Addr} {sl : Array (Option Value)} {oc kV dc pm cd ct : Value}
    (a : PySem.W.nsIn K mainGlobals "law" = some (some (.ref f))) (l : K.lookup f = some ⟨oc, od, .func (PySem.W.fnOf "law" "law" (defArgs s_law) (defBody s_law) (defScope s_law) .none kV dc pm an cd ct), sl⟩)
    (c : PySem.W.codeIn K cd "law" = true) (k : PySem.W.keepIn K (.ref f) = true) : ∃ f fd, DfOk K mg g.kws d_law f fd := by
  refine mk_df (d := d_law) X G sc_law (fun _ _ _ _ _ _ us hl => match us, hl with | [_], _ => rfl) (fun K kV dc pm an cd ct a ks hm perm hp => ?_) a l c k
  rw [show kwFor g.kws d_law.name = _ from kw_law] at hm
  cases hm
theorem df_is_integer : g.df "is_integer" = some d_is_integer := by kernel_rfl
theorem df_is_between : g.df "is_between" = some d_is_between := by kernel_rfl
theorem df_are_between : g.df "are_between" = some d_are_between := by kernel_rfl
theorem df_is_tuple_of : g.df "is_tuple_of" = some d_is_tuple_of := by kernel_rfl
theorem df_check_many : g.df "check_many" = some d_check_many := by kernel_rfl
theorem df_is_turn_of : g.df "is_turn_of" = some d_is_turn_of := by kernel_rfl
theorem df_is_turn : g.df "is_turn" = some d_is_turn := by kernel_rfl
theorem df_check_turn : g.df "check_turn" = some d_check_turn := by kernel_rfl
theorem df_check_both_turns : g.df "check_both_turns" = some d_check_both_turns := by kernel_rfl
theorem df_still_of : g.df "still_of" = some d_still_of := by kernel_rfl
theorem df_still : g.df "still" = some d_still := by kernel_rfl
theorem df_then : g.df "then" = some d_then := by kernel_rfl
theorem df_behind : g.df "behind" = some d_behind := by kernel_rfl
theorem df_back_of : g.df "back_of" = some d_back_of := by kernel_rfl
theorem df_back : g.df "back" = some d_back := by kernel_rfl
theorem df_times : g.df "times" = some d_times := by kernel_rfl
theorem df_turned_by : g.df "turned_by" = some d_turned_by := by kernel_rfl
theorem df_rounds_in : g.df "rounds_in" = some d_rounds_in := by kernel_rfl
theorem df_rounds_of : g.df "rounds_of" = some d_rounds_of := by kernel_rfl
theorem df_turn_by_rounds : g.df "turn_by_rounds" = some d_turn_by_rounds := by kernel_rfl
theorem df_are_rounds : g.df "are_rounds" = some d_are_rounds := by kernel_rfl
theorem df_turn_of_rounds : g.df "turn_of_rounds" = some d_turn_of_rounds := by kernel_rfl
theorem df_common : g.df "common" = some d_common := by kernel_rfl
theorem df_order_in : g.df "order_in" = some d_order_in := by kernel_rfl
theorem df_order_of : g.df "order_of" = some d_order_of := by kernel_rfl
theorem df_is_even_of : g.df "is_even_of" = some d_is_even_of := by kernel_rfl
theorem df_is_even : g.df "is_even" = some d_is_even := by kernel_rfl
theorem df_row_moved : g.df "row_moved" = some d_row_moved := by kernel_rfl
theorem df_moved : g.df "moved" = some d_moved := by kernel_rfl
theorem df__law_pot : g.df "_law_pot" = some d__law_pot := by kernel_rfl
theorem df__law_take : g.df "_law_take" = some d__law_take := by kernel_rfl
theorem df__law_of : g.df "_law_of" = some d__law_of := by kernel_rfl
theorem df__law_cells : g.df "_law_cells" = some d__law_cells := by kernel_rfl
theorem df__law_some : g.df "_law_some" = some d__law_some := by kernel_rfl
theorem df__law_is_int : g.df "_law_is_int" = some d__law_is_int := by kernel_rfl
theorem df__law_bent : g.df "_law_bent" = some d__law_bent := by kernel_rfl
theorem df__law_turn : g.df "_law_turn" = some d__law_turn := by kernel_rfl
theorem df__law_then : g.df "_law_then" = some d__law_then := by kernel_rfl
theorem df__law_back : g.df "_law_back" = some d__law_back := by kernel_rfl
theorem df__law_rounds : g.df "_law_rounds" = some d__law_rounds := by kernel_rfl
theorem df__law_common : g.df "_law_common" = some d__law_common := by kernel_rfl
theorem df__law_right : g.df "_law_right" = some d__law_right := by kernel_rfl
theorem df_law : g.df "law" = some d_law := by kernel_rfl
theorem pg_ok {K : PySem.W.Frag} {mg : Str → Option Value} {h : Heap} (X : K.In h) (G : h.Ns mainGlobals mg)
    {tk0 tk1 : Tok}
    (h0 : ∃ f fd, DfOk K mg g.kws d_is_integer f fd)
    (h1 : ∃ f fd, DfOk K mg g.kws d_is_between f fd)
    (h2 : ∃ f fd, DfOk K mg g.kws d_are_between f fd)
    (h3 : ∃ f fd, DfOk K mg g.kws d_is_tuple_of f fd)
    (h4 : ∃ f fd, DfOk K mg g.kws d_check_many f fd)
    (h5 : ∃ f fd, DfOk K mg g.kws d_is_turn_of f fd)
    (h6 : ∃ f fd, DfOk K mg g.kws d_is_turn f fd)
    (h7 : ∃ f fd, DfOk K mg g.kws d_check_turn f fd)
    (h8 : ∃ f fd, DfOk K mg g.kws d_check_both_turns f fd)
    (h9 : ∃ f fd, DfOk K mg g.kws d_still_of f fd)
    (h10 : ∃ f fd, DfOk K mg g.kws d_still f fd)
    (h11 : ∃ f fd, DfOk K mg g.kws d_then f fd)
    (h12 : ∃ f fd, DfOk K mg g.kws d_behind f fd)
    (h13 : ∃ f fd, DfOk K mg g.kws d_back_of f fd)
    (h14 : ∃ f fd, DfOk K mg g.kws d_back f fd)
    (h15 : ∃ f fd, DfOk K mg g.kws d_times f fd)
    (h16 : ∃ f fd, DfOk K mg g.kws d_turned_by f fd)
    (h17 : ∃ f fd, DfOk K mg g.kws d_rounds_in f fd)
    (h18 : ∃ f fd, DfOk K mg g.kws d_rounds_of f fd)
    (h19 : ∃ f fd, DfOk K mg g.kws d_turn_by_rounds f fd)
    (h20 : ∃ f fd, DfOk K mg g.kws d_are_rounds f fd)
    (h21 : ∃ f fd, DfOk K mg g.kws d_turn_of_rounds f fd)
    (h22 : ∃ f fd, DfOk K mg g.kws d_common f fd)
    (h23 : ∃ f fd, DfOk K mg g.kws d_order_in f fd)
    (h24 : ∃ f fd, DfOk K mg g.kws d_order_of f fd)
    (h25 : ∃ f fd, DfOk K mg g.kws d_is_even_of f fd)
    (h26 : ∃ f fd, DfOk K mg g.kws d_is_even f fd)
    (h27 : ∃ f fd, DfOk K mg g.kws d_row_moved f fd)
    (h28 : ∃ f fd, DfOk K mg g.kws d_moved f fd)
    (h29 : ∃ f fd, DfOk K mg g.kws d__law_pot f fd)
    (h30 : ∃ f fd, DfOk K mg g.kws d__law_take f fd)
    (h31 : ∃ f fd, DfOk K mg g.kws d__law_of f fd)
    (h32 : ∃ f fd, DfOk K mg g.kws d__law_cells f fd)
    (h33 : ∃ f fd, DfOk K mg g.kws d__law_some f fd)
    (h34 : ∃ f fd, DfOk K mg g.kws d__law_is_int f fd)
    (h35 : ∃ f fd, DfOk K mg g.kws d__law_bent f fd)
    (h36 : ∃ f fd, DfOk K mg g.kws d__law_turn f fd)
    (h37 : ∃ f fd, DfOk K mg g.kws d__law_then f fd)
    (h38 : ∃ f fd, DfOk K mg g.kws d__law_back f fd)
    (h39 : ∃ f fd, DfOk K mg g.kws d__law_rounds f fd)
    (h40 : ∃ f fd, DfOk K mg g.kws d__law_common f fd)
    (h41 : ∃ f fd, DfOk K mg g.kws d__law_right f fd)
    (h42 : ∃ f fd, DfOk K mg g.kws d_law f fd)
    (v0 : PySem.W.nsIn K mainGlobals "MOST_PLACES" = some (some (.int 24 tk0)))
    (v1 : PySem.W.nsIn K mainGlobals "MOST_TIMES" = some (some (.int 1000000 tk1)))
    (z0 : PySem.W.nsIn K mainGlobals "len" = some none)
    (z1 : PySem.W.nsIn K mainGlobals "tuple" = some none)
    (z2 : PySem.W.nsIn K mainGlobals "list" = some none)
    (z3 : PySem.W.nsIn K mainGlobals "int" = some none)
    (z4 : PySem.W.nsIn K mainGlobals "isinstance" = some none)
    (z5 : PySem.W.nsIn K mainGlobals "all" = some none)
    (z6 : PySem.W.nsIn K mainGlobals "sum" = some none)
    (z7 : PySem.W.nsIn K mainGlobals "max" = some none)
    (z8 : PySem.W.nsIn K mainGlobals "min" = some none)
    (z9 : PySem.W.nsIn K mainGlobals "abs" = some none)
    (z10 : PySem.W.nsIn K mainGlobals "repr" = some none)
    (z11 : PySem.W.nsIn K mainGlobals "sorted" = some none)
    (z12 : PySem.W.nsIn K mainGlobals "str" = some none)
    (z13 : PySem.W.nsIn K mainGlobals "bool" = some none)
    (z14 : PySem.W.nsIn K mainGlobals "dict" = some none)
    (z15 : PySem.W.nsIn K mainGlobals "range" = some none)
    (z16 : PySem.W.nsIn K mainGlobals "enumerate" = some none)
    (z17 : PySem.W.nsIn K mainGlobals "set" = some none)
    : PgOk K mg g := by
  refine ⟨fun d m => ?_, fun x hx => ?_, fun x d hd => ?_⟩
  · have m : d ∈ [d_is_integer, d_is_between, d_are_between, d_is_tuple_of, d_check_many, d_is_turn_of, d_is_turn, d_check_turn, d_check_both_turns, d_still_of, d_still, d_then, d_behind, d_back_of, d_back, d_times, d_turned_by, d_rounds_in, d_rounds_of, d_turn_by_rounds, d_are_rounds, d_turn_of_rounds, d_common, d_order_in, d_order_of, d_is_even_of, d_is_even, d_row_moved, d_moved, d__law_pot, d__law_take, d__law_of, d__law_cells, d__law_some, d__law_is_int, d__law_bent, d__law_turn, d__law_then, d__law_back, d__law_rounds, d__law_common, d__law_right, d_law] := m
    rcases List.mem_cons.mp m with rfl | m
    · exact h0
    rcases List.mem_cons.mp m with rfl | m
    · exact h1
    rcases List.mem_cons.mp m with rfl | m
    · exact h2
    rcases List.mem_cons.mp m with rfl | m
    · exact h3
    rcases List.mem_cons.mp m with rfl | m
    · exact h4
    rcases List.mem_cons.mp m with rfl | m
    · exact h5
    rcases List.mem_cons.mp m with rfl | m
    · exact h6
    rcases List.mem_cons.mp m with rfl | m
    · exact h7
    rcases List.mem_cons.mp m with rfl | m
    · exact h8
    rcases List.mem_cons.mp m with rfl | m
    · exact h9
    rcases List.mem_cons.mp m with rfl | m
    · exact h10
    rcases List.mem_cons.mp m with rfl | m
    · exact h11
    rcases List.mem_cons.mp m with rfl | m
    · exact h12
    rcases List.mem_cons.mp m with rfl | m
    · exact h13
    rcases List.mem_cons.mp m with rfl | m
    · exact h14
    rcases List.mem_cons.mp m with rfl | m
    · exact h15
    rcases List.mem_cons.mp m with rfl | m
    · exact h16
    rcases List.mem_cons.mp m with rfl | m
    · exact h17
    rcases List.mem_cons.mp m with rfl | m
    · exact h18
    rcases List.mem_cons.mp m with rfl | m
    · exact h19
    rcases List.mem_cons.mp m with rfl | m
    · exact h20
    rcases List.mem_cons.mp m with rfl | m
    · exact h21
    rcases List.mem_cons.mp m with rfl | m
    · exact h22
    rcases List.mem_cons.mp m with rfl | m
    · exact h23
    rcases List.mem_cons.mp m with rfl | m
    · exact h24
    rcases List.mem_cons.mp m with rfl | m
    · exact h25
    rcases List.mem_cons.mp m with rfl | m
    · exact h26
    rcases List.mem_cons.mp m with rfl | m
    · exact h27
    rcases List.mem_cons.mp m with rfl | m
    · exact h28
    rcases List.mem_cons.mp m with rfl | m
    · exact h29
    rcases List.mem_cons.mp m with rfl | m
    · exact h30
    rcases List.mem_cons.mp m with rfl | m
    · exact h31
    rcases List.mem_cons.mp m with rfl | m
    · exact h32
    rcases List.mem_cons.mp m with rfl | m
    · exact h33
    rcases List.mem_cons.mp m with rfl | m
    · exact h34
    rcases List.mem_cons.mp m with rfl | m
    · exact h35
    rcases List.mem_cons.mp m with rfl | m
    · exact h36
    rcases List.mem_cons.mp m with rfl | m
    · exact h37
    rcases List.mem_cons.mp m with rfl | m
    · exact h38
    rcases List.mem_cons.mp m with rfl | m
    · exact h39
    rcases List.mem_cons.mp m with rfl | m
    · exact h40
    rcases List.mem_cons.mp m with rfl | m
    · exact h41
    rw [List.mem_singleton.mp m]; exact h42
  · have m : x ∈ ([("len" : Str), ("tuple" : Str), ("list" : Str), ("int" : Str), ("isinstance" : Str), ("all" : Str), ("sum" : Str), ("max" : Str), ("min" : Str), ("abs" : Str), ("repr" : Str), ("sorted" : Str), ("str" : Str), ("bool" : Str), ("dict" : Str), ("range" : Str), ("enumerate" : Str), ("set" : Str)] : List Str) := by simpa [g] using hx
    rcases List.mem_cons.mp m with rfl | m
    · exact PySem.W.mg_none_of X G z0
    rcases List.mem_cons.mp m with rfl | m
    · exact PySem.W.mg_none_of X G z1
    rcases List.mem_cons.mp m with rfl | m
    · exact PySem.W.mg_none_of X G z2
    rcases List.mem_cons.mp m with rfl | m
    · exact PySem.W.mg_none_of X G z3
    rcases List.mem_cons.mp m with rfl | m
    · exact PySem.W.mg_none_of X G z4
    rcases List.mem_cons.mp m with rfl | m
    · exact PySem.W.mg_none_of X G z5
    rcases List.mem_cons.mp m with rfl | m
    · exact PySem.W.mg_none_of X G z6
    rcases List.mem_cons.mp m with rfl | m
    · exact PySem.W.mg_none_of X G z7
    rcases List.mem_cons.mp m with rfl | m
    · exact PySem.W.mg_none_of X G z8
    rcases List.mem_cons.mp m with rfl | m
    · exact PySem.W.mg_none_of X G z9
    rcases List.mem_cons.mp m with rfl | m
    · exact PySem.W.mg_none_of X G z10
    rcases List.mem_cons.mp m with rfl | m
    · exact PySem.W.mg_none_of X G z11
    rcases List.mem_cons.mp m with rfl | m
    · exact PySem.W.mg_none_of X G z12
    rcases List.mem_cons.mp m with rfl | m
    · exact PySem.W.mg_none_of X G z13
    rcases List.mem_cons.mp m with rfl | m
    · exact PySem.W.mg_none_of X G z14
    rcases List.mem_cons.mp m with rfl | m
    · exact PySem.W.mg_none_of X G z15
    rcases List.mem_cons.mp m with rfl | m
    · exact PySem.W.mg_none_of X G z16
    rw [List.mem_singleton.mp m]; exact PySem.W.mg_none_of X G z17
  · have hd : gv x = some d := hd
    unfold gv at hd
    rcases ite_some hd with ⟨rfl, hd⟩ | ⟨_, hd⟩
    · cases hd; exact ⟨V.int 24, _, PySem.W.mg_of X G v0, ⟨tk0, rfl⟩, fun _ _ => ⟨rfl, rfl⟩⟩
    rcases ite_some hd with ⟨rfl, hd⟩ | ⟨_, hd⟩
    · cases hd; exact ⟨V.int 1000000, _, PySem.W.mg_of X G v1, ⟨tk1, rfl⟩, fun _ _ => ⟨rfl, rfl⟩⟩
    cases hd
end Lw

set_option Elab.async false
set_option linter.all false
set_option maxRecDepth 100000
set_option maxHeartbeats 4000000
namespace Lw
open PySem L2 Yv
def mYes : Mn Bool := fun δ => .ok true δ
def pIndexL : PM := fun d ys => match d with | .lst _ _ => pIndex d ys | _ => none
def pIndexT : PM := fun d ys => match d with | .tup _ => pIndex d ys | _ => none
def fm_is_integer (k : Nat) : List Yv.D → Yv.CR := fun ds => (callM d_is_integer (bodyM g.dn (g.ct (g.sem k) d_is_integer) d_is_integer.st) ds).nox
def fm_is_between (k : Nat) : List Yv.D → Yv.CR := fun ds => (callM d_is_between (bodyM g.dn (g.ct (g.sem k) d_is_between) d_is_between.st) ds).nox
def fm_are_between (k : Nat) : List Yv.D → Yv.CR := fun ds => (callM d_are_between (bodyM g.dn (g.ct (g.sem k) d_are_between) d_are_between.st) ds).nox
def fm_is_tuple_of (k : Nat) : List Yv.D → Yv.CR := fun ds => (callM d_is_tuple_of (bodyM g.dn (g.ct (g.sem k) d_is_tuple_of) d_is_tuple_of.st) ds).nox
def fm_check_many (k : Nat) : List Yv.D → Yv.CR := fun ds => (callM d_check_many (bodyM g.dn (g.ct (g.sem k) d_check_many) d_check_many.st) ds).nox
def fm_is_turn_of (k : Nat) : List Yv.D → Yv.CR := fun ds => (callM d_is_turn_of (bodyM g.dn (g.ct (g.sem k) d_is_turn_of) d_is_turn_of.st) ds).nox
def fm_is_turn (k : Nat) : List Yv.D → Yv.CR := fun ds => (callM d_is_turn (bodyM g.dn (g.ct (g.sem k) d_is_turn) d_is_turn.st) ds).nox
def fm_check_turn (k : Nat) : List Yv.D → Yv.CR := fun ds => (callM d_check_turn (bodyM g.dn (g.ct (g.sem k) d_check_turn) d_check_turn.st) ds).nox
def fm_check_both_turns (k : Nat) : List Yv.D → Yv.CR := fun ds => (callM d_check_both_turns (bodyM g.dn (g.ct (g.sem k) d_check_both_turns) d_check_both_turns.st) ds).nox
def fm_still_of (k : Nat) : List Yv.D → Yv.CR := fun ds => (callM d_still_of (bodyM g.dn (g.ct (g.sem k) d_still_of) d_still_of.st) ds).nox
def fm_still (k : Nat) : List Yv.D → Yv.CR := fun ds => (callM d_still (bodyM g.dn (g.ct (g.sem k) d_still) d_still.st) ds).nox
def fm_then (k : Nat) : List Yv.D → Yv.CR := fun ds => (callM d_then (bodyM g.dn (g.ct (g.sem k) d_then) d_then.st) ds).nox
def fm_behind (k : Nat) : List Yv.D → Yv.CR := fun ds => (callM d_behind (bodyM g.dn (g.ct (g.sem k) d_behind) d_behind.st) ds).nox
def fm_back_of (k : Nat) : List Yv.D → Yv.CR := fun ds => (callM d_back_of (bodyM g.dn (g.ct (g.sem k) d_back_of) d_back_of.st) ds).nox
def fm_back (k : Nat) : List Yv.D → Yv.CR := fun ds => (callM d_back (bodyM g.dn (g.ct (g.sem k) d_back) d_back.st) ds).nox
def fm_times (k : Nat) : List Yv.D → Yv.CR := fun ds => (callM d_times (bodyM g.dn (g.ct (g.sem k) d_times) d_times.st) ds).nox
def fm_turned_by (k : Nat) : List Yv.D → Yv.CR := fun ds => (callM d_turned_by (bodyM g.dn (g.ct (g.sem k) d_turned_by) d_turned_by.st) ds).nox
def fm_rounds_in (k : Nat) : List Yv.D → Yv.CR := fun ds => (callM d_rounds_in (bodyM g.dn (g.ct (g.sem k) d_rounds_in) d_rounds_in.st) ds).nox
def fm_rounds_of (k : Nat) : List Yv.D → Yv.CR := fun ds => (callM d_rounds_of (bodyM g.dn (g.ct (g.sem k) d_rounds_of) d_rounds_of.st) ds).nox
def fm_turn_by_rounds (k : Nat) : List Yv.D → Yv.CR := fun ds => (callM d_turn_by_rounds (bodyM g.dn (g.ct (g.sem k) d_turn_by_rounds) d_turn_by_rounds.st) ds).nox
def fm_are_rounds (k : Nat) : List Yv.D → Yv.CR := fun ds => (callM d_are_rounds (bodyM g.dn (g.ct (g.sem k) d_are_rounds) d_are_rounds.st) ds).nox
def fm_turn_of_rounds (k : Nat) : List Yv.D → Yv.CR := fun ds => (callM d_turn_of_rounds (bodyM g.dn (g.ct (g.sem k) d_turn_of_rounds) d_turn_of_rounds.st) ds).nox
def fm_common (k : Nat) : List Yv.D → Yv.CR := fun ds => (callM d_common (bodyM g.dn (g.ct (g.sem k) d_common) d_common.st) ds).nox
def fm_order_in (k : Nat) : List Yv.D → Yv.CR := fun ds => (callM d_order_in (bodyM g.dn (g.ct (g.sem k) d_order_in) d_order_in.st) ds).nox
def fm_order_of (k : Nat) : List Yv.D → Yv.CR := fun ds => (callM d_order_of (bodyM g.dn (g.ct (g.sem k) d_order_of) d_order_of.st) ds).nox
def fm_is_even_of (k : Nat) : List Yv.D → Yv.CR := fun ds => (callM d_is_even_of (bodyM g.dn (g.ct (g.sem k) d_is_even_of) d_is_even_of.st) ds).nox
def fm_is_even (k : Nat) : List Yv.D → Yv.CR := fun ds => (callM d_is_even (bodyM g.dn (g.ct (g.sem k) d_is_even) d_is_even.st) ds).nox
def fm_row_moved (k : Nat) : List Yv.D → Yv.CR := fun ds => (callM d_row_moved (bodyM g.dn (g.ct (g.sem k) d_row_moved) d_row_moved.st) ds).nox
def fm_moved (k : Nat) : List Yv.D → Yv.CR := fun ds => (callM d_moved (bodyM g.dn (g.ct (g.sem k) d_moved) d_moved.st) ds).nox
def fm__law_pot (k : Nat) : List Yv.D → Yv.CR := fun ds => (callM d__law_pot (bodyM g.dn (g.ct (g.sem k) d__law_pot) d__law_pot.st) ds).nox
def fm__law_take (k : Nat) : List Yv.D → Yv.CR := fun ds => (callM d__law_take (bodyM g.dn (g.ct (g.sem k) d__law_take) d__law_take.st) ds).nox
def fm__law_of (k : Nat) : List Yv.D → Yv.CR := fun ds => (callM d__law_of (bodyM g.dn (g.ct (g.sem k) d__law_of) d__law_of.st) ds).nox
def fm__law_cells (k : Nat) : List Yv.D → Yv.CR := fun ds => (callM d__law_cells (bodyM g.dn (g.ct (g.sem k) d__law_cells) d__law_cells.st) ds).nox
def fm__law_some (k : Nat) : List Yv.D → Yv.CR := fun ds => (callM d__law_some (bodyM g.dn (g.ct (g.sem k) d__law_some) d__law_some.st) ds).nox
def fm__law_is_int (k : Nat) : List Yv.D → Yv.CR := fun ds => (callM d__law_is_int (bodyM g.dn (g.ct (g.sem k) d__law_is_int) d__law_is_int.st) ds).nox
def fm__law_bent (k : Nat) : List Yv.D → Yv.CR := fun ds => (callM d__law_bent (bodyM g.dn (g.ct (g.sem k) d__law_bent) d__law_bent.st) ds).nox
def fm__law_turn (k : Nat) : List Yv.D → Yv.CR := fun ds => (callM d__law_turn (bodyM g.dn (g.ct (g.sem k) d__law_turn) d__law_turn.st) ds).nox
def fm__law_then (k : Nat) : List Yv.D → Yv.CR := fun ds => (callM d__law_then (bodyM g.dn (g.ct (g.sem k) d__law_then) d__law_then.st) ds).nox
def fm__law_back (k : Nat) : List Yv.D → Yv.CR := fun ds => (callM d__law_back (bodyM g.dn (g.ct (g.sem k) d__law_back) d__law_back.st) ds).nox
def fm__law_rounds (k : Nat) : List Yv.D → Yv.CR := fun ds => (callM d__law_rounds (bodyM g.dn (g.ct (g.sem k) d__law_rounds) d__law_rounds.st) ds).nox
def fm__law_common (k : Nat) : List Yv.D → Yv.CR := fun ds => (callM d__law_common (bodyM g.dn (g.ct (g.sem k) d__law_common) d__law_common.st) ds).nox
def fm__law_right (k : Nat) : List Yv.D → Yv.CR := fun ds => (callM d__law_right (bodyM g.dn (g.ct (g.sem k) d__law_right) d__law_right.st) ds).nox
def fm_law (k : Nat) : List Yv.D → Yv.CR := fun ds => (callM d_law (bodyM g.dn (g.ct (g.sem k) d_law) d_law.st) ds).nox
def b_is_integer (k : Nat) : Ms := (mSs [(mRetM [0] (mAndV (mOpL pIsi (mL [(mVar 0), (mC (.ty "int"))])) (mNotV (mOpL pIsi (mL [(mVar 0), (mC (.ty "bool"))])))))])
theorem e_is_integer (k : Nat) : bodyM g.dn (g.ct (g.sem (k + 1)) d_is_integer) d_is_integer.st = b_is_integer k := by kernel_rfl
theorem f_is_integer (k : Nat) (ds : List Yv.D) : fm_is_integer (k + 1) ds = (callM d_is_integer (b_is_integer k) ds).nox := by unfold fm_is_integer; rw [e_is_integer]
def b_is_between (k : Nat) : Ms := (mSs [(mRetM [0, 1, 2] (mAndV (mCall (fm_is_integer k) (mL [(mVar 0)])) (mCh (pOrd fLe gLe) (pOrd fLe gLe) (mVar 1) (mVar 0) (mVar 2))))])
theorem e_is_between (k : Nat) : bodyM g.dn (g.ct (g.sem (k + 1)) d_is_between) d_is_between.st = b_is_between k := by kernel_rfl
theorem f_is_between (k : Nat) (ds : List Yv.D) : fm_is_between (k + 1) ds = (callM d_is_between (b_is_between k) ds).nox := by unfold fm_is_between; rw [e_is_between]
def b_are_between (k : Nat) : Ms := (mSs [(mRetM [0, 1, 2] (mAndV (mOpL pIsi (mL [(mVar 0), (mC (.ty "tuple"))])) (mOpL (lB fAll) (mL [(mLc (mItV (mVar 0)) (.nm 3) mYes (mCall (fm_is_between k) (mL [(mVar 3), (mVar 1), (mVar 2)])) [3])]))))])
theorem e_are_between (k : Nat) : bodyM g.dn (g.ct (g.sem (k + 1)) d_are_between) d_are_between.st = b_are_between k := by kernel_rfl
theorem f_are_between (k : Nat) (ds : List Yv.D) : fm_are_between (k + 1) ds = (callM d_are_between (b_are_between k) ds).nox := by unfold fm_are_between; rw [e_are_between]
def b_is_tuple_of (k : Nat) : Ms := (mSs [(mRetM [0, 1] (mAndV (mOpL pIsi (mL [(mVar 0), (mC (.ty "tuple"))])) (mOp2 pEq (mOpL pLen (mL [(mVar 0)])) (mVar 1))))])
theorem e_is_tuple_of (k : Nat) : bodyM g.dn (g.ct (g.sem (k + 1)) d_is_tuple_of) d_is_tuple_of.st = b_is_tuple_of k := by kernel_rfl
theorem f_is_tuple_of (k : Nat) (ds : List Yv.D) : fm_is_tuple_of (k + 1) ds = (callM d_is_tuple_of (b_is_tuple_of k) ds).nox := by unfold fm_is_tuple_of; rw [e_is_tuple_of]
def b_check_many (k : Nat) : Ms := (mSs [(mIfS (mNot (mTru (mCall (fm_is_between k) (mL [(mVar 0), (mC (.int 1)), (mC (.int 24))])))) (mSs [mFailS]) (mSs []))])
theorem e_check_many (k : Nat) : bodyM g.dn (g.ct (g.sem (k + 1)) d_check_many) d_check_many.st = b_check_many k := by kernel_rfl
theorem f_check_many (k : Nat) (ds : List Yv.D) : fm_check_many (k + 1) ds = (callM d_check_many (b_check_many k) ds).nox := by unfold fm_check_many; rw [e_check_many]
def b_is_turn_of (k : Nat) : Ms := (mSs [(mRetM [0, 1] (mAndV (mCall (fm_are_between k) (mL [(mVar 1), (mC (.int 0)), (mOp2 pSub (mVar 0) (mC (.int 1)))])) (mAndV (mOp2 pEq (mOpL pLen (mL [(mVar 1)])) (mVar 0)) (mOp2 pEq (mOp1 pSetLen (mVar 1)) (mVar 0)))))])
theorem e_is_turn_of (k : Nat) : bodyM g.dn (g.ct (g.sem (k + 1)) d_is_turn_of) d_is_turn_of.st = b_is_turn_of k := by kernel_rfl
theorem f_is_turn_of (k : Nat) (ds : List Yv.D) : fm_is_turn_of (k + 1) ds = (callM d_is_turn_of (b_is_turn_of k) ds).nox := by unfold fm_is_turn_of; rw [e_is_turn_of]
def b_is_turn (k : Nat) : Ms := (mSs [(mDo (mCall (fm_check_many k) (mL [(mVar 0)]))),
      (mRetM [0, 1] (mCall (fm_is_turn_of k) (mL [(mVar 0), (mVar 1)])))])
theorem e_is_turn (k : Nat) : bodyM g.dn (g.ct (g.sem (k + 1)) d_is_turn) d_is_turn.st = b_is_turn k := by kernel_rfl
theorem f_is_turn (k : Nat) (ds : List Yv.D) : fm_is_turn (k + 1) ds = (callM d_is_turn (b_is_turn k) ds).nox := by unfold fm_is_turn; rw [e_is_turn]
def b_check_turn (k : Nat) : Ms := (mSs [(mIfS (mOr (mNot (mTru (mOpL pIsi (mL [(mVar 0), (mC (.ty "tuple"))])))) (mOr (mNot (mBl (mCh (pOrd fLe gLe) (pOrd fLe gLe) (mC (.int 1)) (mOpL pLen (mL [(mVar 0)])) (mC (.int 24))))) (mNot (mTru (mCall (fm_is_turn_of k) (mL [(mOpL pLen (mL [(mVar 0)])), (mVar 0)])))))) (mSs [mFailS]) (mSs []))])
theorem e_check_turn (k : Nat) : bodyM g.dn (g.ct (g.sem (k + 1)) d_check_turn) d_check_turn.st = b_check_turn k := by kernel_rfl
theorem f_check_turn (k : Nat) (ds : List Yv.D) : fm_check_turn (k + 1) ds = (callM d_check_turn (b_check_turn k) ds).nox := by unfold fm_check_turn; rw [e_check_turn]
def b_check_both_turns (k : Nat) : Ms := (mSs [(mDo (mCall (fm_check_turn k) (mL [(mVar 0)]))),
      (mDo (mCall (fm_check_turn k) (mL [(mVar 1)]))),
      (mIfS (mBl (mOp2 pNe (mOpL pLen (mL [(mVar 0)])) (mOpL pLen (mL [(mVar 1)])))) (mSs [mFailS]) (mSs []))])
theorem e_check_both_turns (k : Nat) : bodyM g.dn (g.ct (g.sem (k + 1)) d_check_both_turns) d_check_both_turns.st = b_check_both_turns k := by kernel_rfl
theorem f_check_both_turns (k : Nat) (ds : List Yv.D) : fm_check_both_turns (k + 1) ds = (callM d_check_both_turns (b_check_both_turns k) ds).nox := by unfold fm_check_both_turns; rw [e_check_both_turns]
def b_still_of (k : Nat) : Ms := (mSs [(mRetM [0] (mOp1 pRgT1 (mVar 0)))])
theorem e_still_of (k : Nat) : bodyM g.dn (g.ct (g.sem (k + 1)) d_still_of) d_still_of.st = b_still_of k := by kernel_rfl
theorem f_still_of (k : Nat) (ds : List Yv.D) : fm_still_of (k + 1) ds = (callM d_still_of (b_still_of k) ds).nox := by unfold fm_still_of; rw [e_still_of]
def b_still (k : Nat) : Ms := (mSs [(mDo (mCall (fm_check_many k) (mL [(mVar 0)]))),
      (mRetM [0] (mCall (fm_still_of k) (mL [(mVar 0)])))])
theorem e_still (k : Nat) : bodyM g.dn (g.ct (g.sem (k + 1)) d_still) d_still.st = b_still k := by kernel_rfl
theorem f_still (k : Nat) (ds : List Yv.D) : fm_still (k + 1) ds = (callM d_still (b_still k) ds).nox := by unfold fm_still; rw [e_still]
def b_then (k : Nat) : Ms := (mSs [(mRetM [0, 1] (mOpL pTupOf (mL [(mLc (mItV (mVar 0)) (.nm 2) mYes (mOp2 pIx (mVar 1) (mVar 2)) [2])])))])
theorem e_then (k : Nat) : bodyM g.dn (g.ct (g.sem (k + 1)) d_then) d_then.st = b_then k := by kernel_rfl
theorem f_then (k : Nat) (ds : List Yv.D) : fm_then (k + 1) ds = (callM d_then (b_then k) ds).nox := by unfold fm_then; rw [e_then]
def b_behind (k : Nat) : Ms := (mSs [(mDo (mCall (fm_check_both_turns k) (mL [(mVar 0), (mVar 1)]))),
      (mRetM [0, 1] (mCall (fm_then k) (mL [(mVar 0), (mVar 1)])))])
theorem e_behind (k : Nat) : bodyM g.dn (g.ct (g.sem (k + 1)) d_behind) d_behind.st = b_behind k := by kernel_rfl
theorem f_behind (k : Nat) (ds : List Yv.D) : fm_behind (k + 1) ds = (callM d_behind (b_behind k) ds).nox := by unfold fm_behind; rw [e_behind]
def b_back_of (k : Nat) : Ms := (mSs [(mAsg [0] (.nm 1) (mOp2 pMul (mLst (mL [mFz (mC (.int 0))])) (mOpL pLen (mL [(mVar 0)])))),
      (mFor [0] (mItE (mVar 0)) (.tp [(.nm 2), (.nm 3)]) (mSs [(mSto 1 (mVar 3) (mVar 2))])),
      (mRetM [0] (mOpL pTupOf (mL [(mVar 1)])))])
theorem e_back_of (k : Nat) : bodyM g.dn (g.ct (g.sem (k + 1)) d_back_of) d_back_of.st = b_back_of k := by kernel_rfl
theorem f_back_of (k : Nat) (ds : List Yv.D) : fm_back_of (k + 1) ds = (callM d_back_of (b_back_of k) ds).nox := by unfold fm_back_of; rw [e_back_of]
def b_back (k : Nat) : Ms := (mSs [(mDo (mCall (fm_check_turn k) (mL [(mVar 0)]))),
      (mRetM [0] (mCall (fm_back_of k) (mL [(mVar 0)])))])
theorem e_back (k : Nat) : bodyM g.dn (g.ct (g.sem (k + 1)) d_back) d_back.st = b_back k := by kernel_rfl
theorem f_back (k : Nat) (ds : List Yv.D) : fm_back (k + 1) ds = (callM d_back (b_back k) ds).nox := by unfold fm_back; rw [e_back]
def b_times (k : Nat) : Ms := (mSs [(mDo (mCall (fm_check_turn k) (mL [(mVar 0)]))),
      (mIfS (mNot (mTru (mCall (fm_is_between k) (mL [(mVar 1), (mOp2 pSub (mC (.int 0)) (mC (.int 1000000))), (mC (.int 1000000))])))) (mSs [mFailS]) (mSs [])),
      (mAsg [0, 1] (.nm 2) (mOp1 pRgL1 (mOpL pLen (mL [(mVar 0)])))),
      (mFor [0, 1] (mItV (mCall (fm_rounds_in k) (mL [(mVar 0)]))) (.nm 3) (mSs [(mFor [0, 1] (mItE (mVar 3)) (.tp [(.nm 4), (.nm 5)]) (mSs [(mSto 2 (mVar 5) (mOp2 pIx (mVar 3) (mOp2 pMod (mOp2 pAdd (mVar 4) (mVar 1)) (mOpL pLen (mL [(mVar 3)])))))]))])),
      (mRetM [0, 1] (mOpL pTupOf (mL [(mVar 2)])))])
theorem e_times (k : Nat) : bodyM g.dn (g.ct (g.sem (k + 1)) d_times) d_times.st = b_times k := by kernel_rfl
theorem f_times (k : Nat) (ds : List Yv.D) : fm_times (k + 1) ds = (callM d_times (b_times k) ds).nox := by unfold fm_times; rw [e_times]
def b_turned_by (k : Nat) : Ms := (mSs [(mDo (mCall (fm_check_both_turns k) (mL [(mVar 0), (mVar 1)]))),
      (mRetM [0, 1] (mCall (fm_then k) (mL [(mCall (fm_then k) (mL [(mCall (fm_back_of k) (mL [(mVar 1)])), (mVar 0)])), (mVar 1)])))])
theorem e_turned_by (k : Nat) : bodyM g.dn (g.ct (g.sem (k + 1)) d_turned_by) d_turned_by.st = b_turned_by k := by kernel_rfl
theorem f_turned_by (k : Nat) (ds : List Yv.D) : fm_turned_by (k + 1) ds = (callM d_turned_by (b_turned_by k) ds).nox := by unfold fm_turned_by; rw [e_turned_by]
def b_rounds_in (k : Nat) : Ms := (mSs [(mPar [0] [1, 2] (mL [mDt (mVal (mLst (mL []))), mDt (mVal mDct0)])),
      (mFor [0] (mItR1 (mL [(mOpL pLen (mL [(mVar 0)]))])) (.nm 3) (mSs [(mAsg [0] (.nm 4) (mLst (mL [mFz (mVar 3)]))),
      (mWhile (mAnd (mBl (mOp2 pNe (mOp2 pIx (mVar 0) (mOp2 pIx (mVar 4) (mOp1 pNeg (mC (.int 1))))) (mVar 3))) (mBl (mOp2 pNotIn (mVar 3) (mVar 2)))) (mSs [(mDo (mMe "list" "list" pAppend pAppend (mVar 4) (mL [mFz (mOp2 pIx (mVar 0) (mOp2 pIx (mVar 4) (mOp1 pNeg (mC (.int 1)))))])))]) 1000000),
      (mIfS (mAnd (mBl (mOp2 pNotIn (mVar 3) (mVar 2))) (mBl (mOp2 (pOrd fGt gGt) (mOpL pLen (mL [(mVar 4)])) (mC (.int 1))))) (mSs [(mDo (mMe "list" "list" pAppend pAppend (mVar 1) (mL [mFz (mOpL pTupOf (mL [(mVar 4)]))])))]) (mSs [])),
      (mDo (mMe "dict" "dict" pUpdate pUpdate (mVar 2) (mL [mFz (mOpL pDictOf (mL [(mLc (mItV (mVar 4)) (.nm 5) mYes (mTup (mL [mFz (mVar 5), mFz (mC (.bl true))])) [5])]))])))])),
      (mRetM [0] (mVar 1))])
theorem e_rounds_in (k : Nat) : bodyM g.dn (g.ct (g.sem (k + 1)) d_rounds_in) d_rounds_in.st = b_rounds_in k := by kernel_rfl
theorem f_rounds_in (k : Nat) (ds : List Yv.D) : fm_rounds_in (k + 1) ds = (callM d_rounds_in (b_rounds_in k) ds).nox := by unfold fm_rounds_in; rw [e_rounds_in]
def b_rounds_of (k : Nat) : Ms := (mSs [(mDo (mCall (fm_check_turn k) (mL [(mVar 0)]))),
      (mRetM [0] (mOpL pTupOf (mL [(mCall (fm_rounds_in k) (mL [(mVar 0)]))])))])
theorem e_rounds_of (k : Nat) : bodyM g.dn (g.ct (g.sem (k + 1)) d_rounds_of) d_rounds_of.st = b_rounds_of k := by kernel_rfl
theorem f_rounds_of (k : Nat) (ds : List Yv.D) : fm_rounds_of (k + 1) ds = (callM d_rounds_of (b_rounds_of k) ds).nox := by unfold fm_rounds_of; rw [e_rounds_of]
def b_turn_by_rounds (k : Nat) : Ms := (mSs [(mAsg [0, 1] (.nm 2) (mOp1 pRgL1 (mVar 0))),
      (mFor [0, 1] (mItV (mVar 1)) (.nm 3) (mSs [(mFor [0, 1] (mItE (mVar 3)) (.tp [(.nm 4), (.nm 5)]) (mSs [(mSto 2 (mVar 5) (mOp2 pIx (mVar 3) (mOp2 pMod (mOp2 pAdd (mVar 4) (mC (.int 1))) (mOpL pLen (mL [(mVar 3)])))))]))])),
      (mRetM [0, 1] (mOpL pTupOf (mL [(mVar 2)])))])
theorem e_turn_by_rounds (k : Nat) : bodyM g.dn (g.ct (g.sem (k + 1)) d_turn_by_rounds) d_turn_by_rounds.st = b_turn_by_rounds k := by kernel_rfl
theorem f_turn_by_rounds (k : Nat) (ds : List Yv.D) : fm_turn_by_rounds (k + 1) ds = (callM d_turn_by_rounds (b_turn_by_rounds k) ds).nox := by unfold fm_turn_by_rounds; rw [e_turn_by_rounds]
def b_are_rounds (k : Nat) : Ms := (mSs [(mIfS (mOr (mNot (mTru (mOpL pIsi (mL [(mVar 1), (mC (.ty "tuple"))])))) (mNot (mTru (mOpL (lB fAll) (mL [(mLc (mItV (mVar 1)) (.nm 3) mYes (mAndV (mCall (fm_are_between k) (mL [(mVar 3), (mC (.int 0)), (mOp2 pSub (mVar 0) (mC (.int 1)))])) (mOp2 (pOrd fGt gGt) (mOpL pLen (mL [(mVar 3)])) (mC (.int 1)))) [3])]))))) (mSs [(mRetM [0, 1] (mC (.bl false)))]) (mSs [])),
      (mAsg [0, 1] (.nm 2) (mLst (mL []))),
      (mFor [0, 1] (mItV (mVar 1)) (.nm 3) (mSs [(mDo (mMe "list" "list" pExtend pExtend (mVar 2) (mL [(mVar 3)])))])),
      (mRetM [0, 1] (mAndV (mOp2 pEq (mOp1 pSetLen (mVar 2)) (mOpL pLen (mL [(mVar 2)]))) (mOp2 pEq (mOpL pTupOf (mL [(mCall (fm_rounds_in k) (mL [(mCall (fm_turn_by_rounds k) (mL [(mVar 0), (mVar 1)]))]))])) (mVar 1))))])
theorem e_are_rounds (k : Nat) : bodyM g.dn (g.ct (g.sem (k + 1)) d_are_rounds) d_are_rounds.st = b_are_rounds k := by kernel_rfl
theorem f_are_rounds (k : Nat) (ds : List Yv.D) : fm_are_rounds (k + 1) ds = (callM d_are_rounds (b_are_rounds k) ds).nox := by unfold fm_are_rounds; rw [e_are_rounds]
def b_turn_of_rounds (k : Nat) : Ms := (mSs [(mDo (mCall (fm_check_many k) (mL [(mVar 0)]))),
      (mIfS (mNot (mTru (mCall (fm_are_rounds k) (mL [(mVar 0), (mVar 1)])))) (mSs [mFailS]) (mSs [])),
      (mRetM [0, 1] (mCall (fm_turn_by_rounds k) (mL [(mVar 0), (mVar 1)])))])
theorem e_turn_of_rounds (k : Nat) : bodyM g.dn (g.ct (g.sem (k + 1)) d_turn_of_rounds) d_turn_of_rounds.st = b_turn_of_rounds k := by kernel_rfl
theorem f_turn_of_rounds (k : Nat) (ds : List Yv.D) : fm_turn_of_rounds (k + 1) ds = (callM d_turn_of_rounds (b_turn_of_rounds k) ds).nox := by unfold fm_turn_of_rounds; rw [e_turn_of_rounds]
def b_common (k : Nat) : Ms := (mSs [(mWhile (mBl (mOp2 pNe (mVar 0) (mC (.int 0)))) (mSs [(mPar [] [0, 1] (mL [mDt (mVal (mOp2 pMod (mVar 1) (mVar 0))), mDt (mVal (mVar 0))]))]) 1000000),
      (mRetM [] (mVar 1))])
theorem e_common (k : Nat) : bodyM g.dn (g.ct (g.sem (k + 1)) d_common) d_common.st = b_common k := by kernel_rfl
theorem f_common (k : Nat) (ds : List Yv.D) : fm_common (k + 1) ds = (callM d_common (b_common k) ds).nox := by unfold fm_common; rw [e_common]
def b_order_in (k : Nat) : Ms := (mSs [(mAsg [0] (.nm 1) (mC (.int 1))),
      (mFor [0] (mItV (mCall (fm_rounds_in k) (mL [(mVar 0)]))) (.nm 2) (mSs [(mAsg [0] (.nm 1) (mOp2 pDiv (mOp2 pMul (mVar 1) (mOpL pLen (mL [(mVar 2)]))) (mCall (fm_common k) (mL [(mVar 1), (mOpL pLen (mL [(mVar 2)]))]))))])),
      (mRetM [0] (mVar 1))])
theorem e_order_in (k : Nat) : bodyM g.dn (g.ct (g.sem (k + 1)) d_order_in) d_order_in.st = b_order_in k := by kernel_rfl
theorem f_order_in (k : Nat) (ds : List Yv.D) : fm_order_in (k + 1) ds = (callM d_order_in (b_order_in k) ds).nox := by unfold fm_order_in; rw [e_order_in]
def b_order_of (k : Nat) : Ms := (mSs [(mDo (mCall (fm_check_turn k) (mL [(mVar 0)]))),
      (mRetM [0] (mCall (fm_order_in k) (mL [(mVar 0)])))])
theorem e_order_of (k : Nat) : bodyM g.dn (g.ct (g.sem (k + 1)) d_order_of) d_order_of.st = b_order_of k := by kernel_rfl
theorem f_order_of (k : Nat) (ds : List Yv.D) : fm_order_of (k + 1) ds = (callM d_order_of (b_order_of k) ds).nox := by unfold fm_order_of; rw [e_order_of]
def b_is_even_of (k : Nat) : Ms := (mSs [(mRetM [0] (mOp2 pEq (mOp2 pMod (mOpL (lI fSum) (mL [(mLc (mItV (mCall (fm_rounds_in k) (mL [(mVar 0)]))) (.nm 1) mYes (mOp2 pSub (mOpL pLen (mL [(mVar 1)])) (mC (.int 1))) [1])])) (mC (.int 2))) (mC (.int 0))))])
theorem e_is_even_of (k : Nat) : bodyM g.dn (g.ct (g.sem (k + 1)) d_is_even_of) d_is_even_of.st = b_is_even_of k := by kernel_rfl
theorem f_is_even_of (k : Nat) (ds : List Yv.D) : fm_is_even_of (k + 1) ds = (callM d_is_even_of (b_is_even_of k) ds).nox := by unfold fm_is_even_of; rw [e_is_even_of]
def b_is_even (k : Nat) : Ms := (mSs [(mDo (mCall (fm_check_turn k) (mL [(mVar 0)]))),
      (mRetM [0] (mCall (fm_is_even_of k) (mL [(mVar 0)])))])
theorem e_is_even (k : Nat) : bodyM g.dn (g.ct (g.sem (k + 1)) d_is_even) d_is_even.st = b_is_even k := by kernel_rfl
theorem f_is_even (k : Nat) (ds : List Yv.D) : fm_is_even (k + 1) ds = (callM d_is_even (b_is_even k) ds).nox := by unfold fm_is_even; rw [e_is_even]
def b_row_moved (k : Nat) : Ms := (mSs [(mAsg [0, 1] (.nm 2) (mOp2 pMul (mLst (mL [mFz (mC (.non))])) (mOpL pLen (mL [(mVar 0)])))),
      (mFor [0, 1] (mItE (mVar 1)) (.tp [(.nm 3), (.nm 4)]) (mSs [(mSto 2 (mOp2 pIx (mVar 0) (mVar 3)) (mVar 4))])),
      (mRetM [0, 1] (mOpL pTupOf (mL [(mVar 2)])))])
theorem e_row_moved (k : Nat) : bodyM g.dn (g.ct (g.sem (k + 1)) d_row_moved) d_row_moved.st = b_row_moved k := by kernel_rfl
theorem f_row_moved (k : Nat) (ds : List Yv.D) : fm_row_moved (k + 1) ds = (callM d_row_moved (b_row_moved k) ds).nox := by unfold fm_row_moved; rw [e_row_moved]
def b_moved (k : Nat) : Ms := (mSs [(mDo (mCall (fm_check_turn k) (mL [(mVar 0)]))),
      (mIfS (mNot (mTru (mCall (fm_is_tuple_of k) (mL [(mVar 1), (mOpL pLen (mL [(mVar 0)]))])))) (mSs [mFailS]) (mSs [])),
      (mRetM [0, 1] (mCall (fm_row_moved k) (mL [(mVar 0), (mVar 1)])))])
theorem e_moved (k : Nat) : bodyM g.dn (g.ct (g.sem (k + 1)) d_moved) d_moved.st = b_moved k := by kernel_rfl
theorem f_moved (k : Nat) (ds : List Yv.D) : fm_moved (k + 1) ds = (callM d_moved (b_moved k) ds).nox := by unfold fm_moved; rw [e_moved]
def b__law_pot (k : Nat) : Ms := (mSs [(mAsg [0, 1] (.nm 2) (mIf (mBl (mOp2 (pOrd fLt gLt) (mVar 1) (mOpL pLen (mL [(mVar 0)])))) (mOp2 pIx (mVar 0) (mVar 1)) (mOp2 pAdd (mOp2 pAdd (mOp2 pMod (mOpL pInt (mL [(mOpL (lI fSum) (mL [(mSl (mVar 0) mPart0 (mPart (mC (.int 1))))]))])) (mC (.int 1000003))) (mOp2 pMul (mC (.int 5110)) (mVar 1))) (mC (.int 13136))))),
      (mAsg [0, 1] (.nm 3) (mOp2 pMul (mOp2 pMod (mOpL pInt (mL [(mOpL pAbs (mL [(mVar 2)]))])) (mOp2 pPow (mOp2 pPow (mC (.int 10)) (mC (.int 60))) (mC (.int 5)))) (mOpL pInt (mL [(mOp2 (pOrd fGe gGe) (mOpL pAbs (mL [(mVar 2)])) (mOp2 pPow (mC (.int 10)) (mC (.int 18))))])))),
      (mAsg [0, 1] (.nm 4) (mOp2 pMod (mOpL pInt (mL [(mVar 2)])) (mC (.int 2305843009213693951)))),
      (mRetM [0, 1] (mLst (mL [mFz (mVar 3), mFz (mOp2 pMod (mOpL pInt (mL [(mOp2 pAdd (mOp2 pAdd (mOp2 pMul (mVar 4) (mC (.int 109379))) (mOp2 pMul (mOp2 pMul (mC (.int 16829)) (mVar 1)) (mVar 1))) (mC (.int 4510)))])) (mC (.int 2305843009213693921))), mFz (mC (.int 0))])))])
theorem e__law_pot (k : Nat) : bodyM g.dn (g.ct (g.sem (k + 1)) d__law_pot) d__law_pot.st = b__law_pot k := by kernel_rfl
theorem f__law_pot (k : Nat) (ds : List Yv.D) : fm__law_pot (k + 1) ds = (callM d__law_pot (b__law_pot k) ds).nox := by unfold fm__law_pot; rw [e__law_pot]
def b__law_take (k : Nat) : Ms := (mSs [(mIfS (mBl (mOp2 (pOrd fGt gGt) (mOp2 pIx (mVar 0) (mC (.int 0))) (mC (.int 0)))) (mSs [(mAsg [0, 1] (.nm 2) (mOp2 pMod (mOpL pInt (mL [(mOp2 pIx (mVar 0) (mC (.int 0)))])) (mVar 1))),
      (mSto 0 (mC (.int 0)) (mOp2 pDiv (mOp2 pIx (mVar 0) (mC (.int 0))) (mVar 1))),
      (mRetM [0, 1] (mVar 2))]) (mSs [])),
      (mSto 0 (mC (.int 2)) (mOp2 pAdd (mOp2 pIx (mVar 0) (mC (.int 2))) (mC (.int 1)))),
      (mAsg [0, 1] (.nm 3) (mOp2 pIx (mLst (mL [mFz (mC (.int 2147483647)), mFz (mC (.int 2147483629)), mFz (mC (.int 2147483587)), mFz (mC (.int 2147483579))])) (mOp2 pMod (mOpL pInt (mL [(mOp2 pIx (mVar 0) (mC (.int 2)))])) (mC (.int 4))))),
      (mAsg [0, 1] (.nm 4) (mOp2 pMod (mOpL pInt (mL [(mOp2 pPow (mOpL pInt (mL [(mOp2 pAdd (mOp2 pAdd (mOp2 pIx (mVar 0) (mC (.int 1))) (mOp2 pMul (mOp2 pMul (mC (.int 167189)) (mOp2 pIx (mVar 0) (mC (.int 2)))) (mOp2 pIx (mVar 0) (mC (.int 2))))) (mC (.int 5210)))])) (mC (.int 3)))])) (mVar 3))),
      (mRetM [0, 1] (mOp2 pMod (mOpL pInt (mL [(mOp2 pDiv (mOp2 pMul (mVar 4) (mOp2 pAdd (mOp2 pMod (mOpL pInt (mL [(mVar 4)])) (mC (.int 10007))) (mOp2 pMul (mC (.int 4412)) (mOp2 pIx (mVar 0) (mC (.int 2)))))) (mC (.int 307)))])) (mVar 1)))])
theorem e__law_take (k : Nat) : bodyM g.dn (g.ct (g.sem (k + 1)) d__law_take) d__law_take.st = b__law_take k := by kernel_rfl
theorem f__law_take (k : Nat) (ds : List Yv.D) : fm__law_take (k + 1) ds = (callM d__law_take (b__law_take k) ds).nox := by unfold fm__law_take; rw [e__law_take]
def b__law_of (k : Nat) : Ms := (mSs [(mRetM [0, 1] (mOp2 pIx (mVar 1) (mCall (fm__law_take k) (mL [(mVar 0), (mOpL pLen (mL [(mVar 1)]))]))))])
theorem e__law_of (k : Nat) : bodyM g.dn (g.ct (g.sem (k + 1)) d__law_of) d__law_of.st = b__law_of k := by kernel_rfl
theorem f__law_of (k : Nat) (ds : List Yv.D) : fm__law_of (k + 1) ds = (callM d__law_of (b__law_of k) ds).nox := by unfold fm__law_of; rw [e__law_of]
def b__law_cells (k : Nat) : Ms := (mSs [(mRetM [0, 1] (mOp1 pRgL1 (mOpL pMaxA (mL [(mC (.int 1)), (mOpL pMinA (mL [(mVar 1), (mOpL pLen (mL [(mVar 0)]))]))]))))])
theorem e__law_cells (k : Nat) : bodyM g.dn (g.ct (g.sem (k + 1)) d__law_cells) d__law_cells.st = b__law_cells k := by kernel_rfl
theorem f__law_cells (k : Nat) (ds : List Yv.D) : fm__law_cells (k + 1) ds = (callM d__law_cells (b__law_cells k) ds).nox := by unfold fm__law_cells; rw [e__law_cells]
def b__law_some (k : Nat) : Ms := (mSs [(mPar [0, 1, 2] [3, 4] (mL [mDt (mVal (mOpL pLstOf (mL [(mVar 1)]))), mDt (mVal (mLst (mL [])))])),
      (mFor [0, 1, 2] (mItR1 (mL [(mVar 2)])) (.nm 5) (mSs [(mDo (mMe "list" "list" pAppend pAppend (mVar 4) (mL [mFz (mMe "list" "list" pPop pPop (mVar 3) (mL [mFz (mCall (fm__law_take k) (mL [(mVar 0), (mOpL pLen (mL [(mVar 3)]))]))]))])))])),
      (mRetM [0, 1, 2] (mVar 4))])
theorem e__law_some (k : Nat) : bodyM g.dn (g.ct (g.sem (k + 1)) d__law_some) d__law_some.st = b__law_some k := by kernel_rfl
theorem f__law_some (k : Nat) (ds : List Yv.D) : fm__law_some (k + 1) ds = (callM d__law_some (b__law_some k) ds).nox := by unfold fm__law_some; rw [e__law_some]
def b__law_is_int (k : Nat) : Ms := (mSs [(mRetM [0] (mAndV (mOpL pIsi (mL [(mVar 0), (mC (.ty "int"))])) (mNotV (mOpL pIsi (mL [(mVar 0), (mC (.ty "bool"))])))))])
theorem e__law_is_int (k : Nat) : bodyM g.dn (g.ct (g.sem (k + 1)) d__law_is_int) d__law_is_int.st = b__law_is_int k := by kernel_rfl
theorem f__law_is_int (k : Nat) (ds : List Yv.D) : fm__law_is_int (k + 1) ds = (callM d__law_is_int (b__law_is_int k) ds).nox := by unfold fm__law_is_int; rw [e__law_is_int]
def b__law_bent (k : Nat) : Ms := (mSs [(mIfS (mAnd (mTru (mOpL pIsi (mL [(mVar 1), (mC (.ty "tuple"))]))) (mBl (mOp2 pNe (mVar 1) (mTup (mL []))))) (mSs [(mAsg [0, 1] (.nm 2) (mCall (fm__law_take k) (mL [(mVar 0), (mOpL pLen (mL [(mVar 1)]))]))),
      (mIfS (mBl (mOp2 pEq (mCall (fm__law_take k) (mL [(mVar 0), (mC (.int 3))])) (mC (.int 0)))) (mSs [(mRetM [0, 1] (mCall (fm__law_of k) (mL [(mVar 0), (mLst (mL [mFz (mOpL pLstOf (mL [(mVar 1)])), mFz (mOp2 pAdd (mSl (mVar 1) mPart0 (mPart (mVar 2))) (mSl (mVar 1) (mPart (mOp2 pAdd (mVar 2) (mC (.int 1)))) mPart0)), mFz (mOp2 pAdd (mVar 1) (mSl (mVar 1) mPart0 (mPart (mC (.int 1))))), mFz (mOp1 pRev (mVar 1))]))])))]) (mSs [])),
      (mRetM [0, 1] (mOp2 pAdd (mOp2 pAdd (mSl (mVar 1) mPart0 (mPart (mVar 2))) (mTup (mL [mFz (mCall (fm__law_bent k) (mL [(mVar 0), (mOp2 pIx (mVar 1) (mVar 2))]))]))) (mSl (mVar 1) (mPart (mOp2 pAdd (mVar 2) (mC (.int 1)))) mPart0)))]) (mSs [])),
      (mIfS (mTru (mCall (fm__law_is_int k) (mL [(mVar 1)]))) (mSs [(mRetM [0, 1] (mCall (fm__law_of k) (mL [(mVar 0), (mLst (mL [mFz (mOp2 pAdd (mVar 1) (mC (.int 1))), mFz (mOp2 pSub (mVar 1) (mC (.int 1))), mFz (mC (.non)), mFz (mOpL pStr (mL [(mVar 1)])), mFz (mOp2 pEq (mVar 1) (mC (.int 1)))]))])))]) (mSs [])),
      (mIfS (mAnd (mTru (mOpL pIsi (mL [(mVar 1), (mC (.ty "str"))]))) (mBl (mOp2 pNe (mVar 1) (mC (.str ""))))) (mSs [(mRetM [0, 1] (mCall (fm__law_of k) (mL [(mVar 0), (mLst (mL [mFz (mSl (mVar 1) mPart0 (mPart (mOp1 pNeg (mC (.int 1))))), mFz (mOp2 pAdd (mVar 1) (mC (.str "a"))), mFz (mOp1 pRev (mVar 1)), mFz mFail, mFz (mC (.non)), mFz (mC (.str "zz"))]))])))]) (mSs [])),
      (mRetM [0, 1] (mCall (fm__law_of k) (mL [(mVar 0), (mLst (mL [mFz (mC (.non)), mFz (mC (.str "a")), mFz (mC (.str "")), mFz (mC (.int 0)), mFz (mTup (mL [])), mFz (mTup (mL [mFz (mC (.str "a"))])), mFz (mC (.bl true)), mFz (mOp1 pNeg (mC (.int 1)))]))])))])
theorem e__law_bent (k : Nat) : bodyM g.dn (g.ct (g.sem (k + 1)) d__law_bent) d__law_bent.st = b__law_bent k := by kernel_rfl
theorem f__law_bent (k : Nat) (ds : List Yv.D) : fm__law_bent (k + 1) ds = (callM d__law_bent (b__law_bent k) ds).nox := by unfold fm__law_bent; rw [e__law_bent]
def b__law_turn (k : Nat) : Ms := (mSs [(mRetM [0, 1] (mOpL pTupOf (mL [(mLc (mItV (mCall (fm__law_some k) (mL [(mVar 0), (mOp1 pRgL1 (mVar 1)), (mVar 1)]))) (.nm 2) mYes (mOpL pInt (mL [(mVar 2)])) [2])])))])
theorem e__law_turn (k : Nat) : bodyM g.dn (g.ct (g.sem (k + 1)) d__law_turn) d__law_turn.st = b__law_turn k := by kernel_rfl
theorem f__law_turn (k : Nat) (ds : List Yv.D) : fm__law_turn (k + 1) ds = (callM d__law_turn (b__law_turn k) ds).nox := by unfold fm__law_turn; rw [e__law_turn]
def b__law_then (k : Nat) : Ms := (mSs [(mRetM [0, 1] (mOpL pTupOf (mL [(mLc (mItV (mVar 0)) (.nm 2) mYes (mOp2 pIx (mVar 1) (mVar 2)) [2])])))])
theorem e__law_then (k : Nat) : bodyM g.dn (g.ct (g.sem (k + 1)) d__law_then) d__law_then.st = b__law_then k := by kernel_rfl
theorem f__law_then (k : Nat) (ds : List Yv.D) : fm__law_then (k + 1) ds = (callM d__law_then (b__law_then k) ds).nox := by unfold fm__law_then; rw [e__law_then]
def b__law_back (k : Nat) : Ms := (mSs [(mRetM [0] (mOpL pTupOf (mL [(mLc (mItR1 (mL [(mOpL pLen (mL [(mVar 0)]))])) (.nm 1) mYes (mMe "list" "tuple" pIndexL pIndexT (mVar 0) (mL [mFz (mVar 1)])) [1])])))])
theorem e__law_back (k : Nat) : bodyM g.dn (g.ct (g.sem (k + 1)) d__law_back) d__law_back.st = b__law_back k := by kernel_rfl
theorem f__law_back (k : Nat) (ds : List Yv.D) : fm__law_back (k + 1) ds = (callM d__law_back (b__law_back k) ds).nox := by unfold fm__law_back; rw [e__law_back]
def b__law_rounds (k : Nat) : Ms := (mSs [(mPar [0] [1, 2] (mL [mDt (mVal (mLst (mL []))), mDt (mVal (mOp1 pRgL1 (mOpL pLen (mL [(mVar 0)]))))])),
      (mWhile (mBl (mOp2 pNe (mVar 2) (mLst (mL [])))) (mSs [(mAsg [0] (.nm 3) (mLst (mL [mFz (mOp2 pIx (mVar 2) (mC (.int 0)))]))),
      (mWhile (mBl (mOp2 pNe (mOp2 pIx (mVar 0) (mOp2 pIx (mVar 3) (mOp1 pNeg (mC (.int 1))))) (mOp2 pIx (mVar 2) (mC (.int 0))))) (mSs [(mDo (mMe "list" "list" pAppend pAppend (mVar 3) (mL [mFz (mOp2 pIx (mVar 0) (mOp2 pIx (mVar 3) (mOp1 pNeg (mC (.int 1)))))])))]) 1000000),
      (mAsg [0] (.nm 2) (mLc (mItV (mVar 2)) (.nm 4) (mBl (mOp2 pNotIn (mVar 4) (mVar 3))) (mVar 4) [4])),
      (mDo (mMe "list" "list" pExtend pExtend (mVar 1) (mL [(mIf (mBl (mOp2 (pOrd fGt gGt) (mOpL pLen (mL [(mVar 3)])) (mC (.int 1)))) (mLst (mL [mFz (mOpL pTupOf (mL [(mLc (mItV (mVar 3)) (.nm 4) mYes (mOpL pInt (mL [(mVar 4)])) [4])]))])) (mLst (mL [])))])))]) 1000000),
      (mRetM [0] (mVar 1))])
theorem e__law_rounds (k : Nat) : bodyM g.dn (g.ct (g.sem (k + 1)) d__law_rounds) d__law_rounds.st = b__law_rounds k := by kernel_rfl
theorem f__law_rounds (k : Nat) (ds : List Yv.D) : fm__law_rounds (k + 1) ds = (callM d__law_rounds (b__law_rounds k) ds).nox := by unfold fm__law_rounds; rw [e__law_rounds]
def b__law_common (k : Nat) : Ms := (mSs [(mWhile (mBl (mOp2 pNe (mVar 1) (mC (.int 0)))) (mSs [(mPar [] [0, 1] (mL [mDt (mVal (mVar 1)), mDt (mVal (mOp2 pMod (mVar 0) (mVar 1)))]))]) 1000000),
      (mRetM [] (mVar 0))])
theorem e__law_common (k : Nat) : bodyM g.dn (g.ct (g.sem (k + 1)) d__law_common) d__law_common.st = b__law_common k := by kernel_rfl
theorem f__law_common (k : Nat) (ds : List Yv.D) : fm__law_common (k + 1) ds = (callM d__law_common (b__law_common k) ds).nox := by unfold fm__law_common; rw [e__law_common]
def b__law_right (k : Nat) : Ms := (mSs [(mAsg [0] (.nm 1) (mOpL pInt (mL [(mCall (fm__law_of k) (mL [(mVar 0), (mLst (mL [mFz (mOp2 pAdd (mC (.int 1)) (mCall (fm__law_take k) (mL [(mVar 0), (mC (.int 12))]))), mFz (mOp2 pAdd (mC (.int 1)) (mCall (fm__law_take k) (mL [(mVar 0), (mC (.int 6))]))), mFz (mC (.int 24))]))]))]))),
      (mAsg [0] (.tp [(.nm 2), (.nm 3), (.nm 4)]) (mTup (mL [mFz (mCall (fm__law_turn k) (mL [(mVar 0), (mVar 1)])), mFz (mCall (fm__law_turn k) (mL [(mVar 0), (mVar 1)])), mFz (mOpL pTupOf (mL [(mLc (mItR1 (mL [(mVar 1)])) (.nm 14) mYes (mOpL pInt (mL [(mVar 14)])) [14])]))]))),
      (mIfS (mOr (mBl (mOp2 pNe (mOpL pRepr (mL [(mCall (fm_still k) (mPerm 1 [0] (mL [(mVar 1)])))])) (mOpL pRepr (mL [(mVar 4)])))) (mOr (mBl (mOp2 pNe (mOpL pRepr (mL [(mCall (fm_behind k) (mPerm 2 [0, 1] (mL [(mVar 2), (mVar 3)])))])) (mOpL pRepr (mL [(mCall (fm__law_then k) (mL [(mVar 2), (mVar 3)]))])))) (mBl (mOp2 pNe (mOpL pRepr (mL [(mCall (fm_back k) (mPerm 1 [0] (mL [(mVar 2)])))])) (mOpL pRepr (mL [(mCall (fm__law_back k) (mL [(mVar 2)]))])))))) (mSs [(mRetM [0] (mC (.bl false)))]) (mSs [])),
      (mAsg [0] (.nm 5) (mCall (fm__law_rounds k) (mL [(mVar 2)]))),
      (mIfS (mOr (mBl (mOp2 pNe (mOpL pRepr (mL [(mCall (fm_rounds_of k) (mPerm 1 [0] (mL [(mVar 2)])))])) (mOpL pRepr (mL [(mOpL pTupOf (mL [(mVar 5)]))])))) (mBl (mOp2 pNe (mOpL pRepr (mL [(mCall (fm_turn_of_rounds k) (mPerm 2 [0, 1] (mL [(mVar 1), (mOpL pTupOf (mL [(mVar 5)]))])))])) (mOpL pRepr (mL [(mVar 2)]))))) (mSs [(mRetM [0] (mC (.bl false)))]) (mSs [])),
      (mAsg [0] (.nm 6) (mC (.int 1))),
      (mFor [0] (mItV (mVar 5)) (.nm 7) (mSs [(mAsg [0] (.nm 6) (mOp2 pDiv (mOp2 pMul (mVar 6) (mOpL pLen (mL [(mVar 7)]))) (mCall (fm__law_common k) (mL [(mVar 6), (mOpL pLen (mL [(mVar 7)]))]))))])),
      (mIfS (mOr (mBl (mOp2 pNe (mOpL pRepr (mL [(mCall (fm_order_of k) (mPerm 1 [0] (mL [(mVar 2)])))])) (mOpL pRepr (mL [(mOpL pInt (mL [(mVar 6)]))])))) (mBl (mOp2 pNe (mCall (fm_times k) (mL [(mVar 2), (mVar 6)])) (mVar 4)))) (mSs [(mRetM [0] (mC (.bl false)))]) (mSs [])),
      (mAsg [0] (.nm 8) (mOpL (lI fSum) (mL [(mLc (mItR1 (mL [(mVar 1)])) (.nm 15) mYes (mOpL pLen (mL [(mLc (mItV (mSl (mVar 2) (mPart (mOp2 pAdd (mVar 15) (mC (.int 1)))) mPart0)) (.nm 16) (mBl (mOp2 (pOrd fLt gLt) (mVar 16) (mOp2 pIx (mVar 2) (mVar 15)))) (mVar 16) [16])])) [15])]))),
      (mIfS (mOr (mBl (mOp2 pNe (mOpL pRepr (mL [(mCall (fm_is_even k) (mPerm 1 [0] (mL [(mVar 2)])))])) (mOpL pRepr (mL [(mOp2 pEq (mOp2 pMod (mVar 8) (mC (.int 2))) (mC (.int 0)))])))) (mBl (mOp2 pNe (mCall (fm_is_even k) (mL [(mCall (fm_behind k) (mL [(mVar 2), (mVar 3)]))])) (mOp2 pEq (mCall (fm_is_even k) (mL [(mVar 2)])) (mCall (fm_is_even k) (mL [(mVar 3)])))))) (mSs [(mRetM [0] (mC (.bl false)))]) (mSs [])),
      (mAsg [0] (.nm 9) (mOpL pInt (mL [(mCall (fm__law_of k) (mL [(mVar 0), (mLst (mL [mFz (mCall (fm__law_take k) (mL [(mVar 0), (mC (.int 30))])), mFz (mOp2 pSub (mC (.int 0)) (mCall (fm__law_take k) (mL [(mVar 0), (mC (.int 30))]))), mFz (mC (.int 1000000)), mFz (mOp1 pNeg (mC (.int 1000000)))]))]))]))),
      (mAsg [0] (.nm 10) (mVar 4)),
      (mFor [0] (mItR1 (mL [(mOp2 pMod (mVar 9) (mVar 6))])) (.nm 11) (mSs [(mAsg [0] (.nm 10) (mCall (fm__law_then k) (mL [(mVar 10), (mVar 2)])))])),
      (mIfS (mBl (mOp2 pNe (mOpL pRepr (mL [(mCall (fm_times k) (mPerm 2 [1, 0] (mL [(mVar 9), (mVar 2)])))])) (mOpL pRepr (mL [(mVar 10)])))) (mSs [(mRetM [0] (mC (.bl false)))]) (mSs [])),
      (mIfS (mBl (mOp2 pNe (mOpL pRepr (mL [(mCall (fm_turned_by k) (mPerm 2 [0, 1] (mL [(mVar 2), (mVar 3)])))])) (mOpL pRepr (mL [(mCall (fm__law_then k) (mL [(mCall (fm__law_then k) (mL [(mCall (fm__law_back k) (mL [(mVar 3)])), (mVar 2)])), (mVar 3)]))])))) (mSs [(mRetM [0] (mC (.bl false)))]) (mSs [])),
      (mAsg [0] (.nm 7) (mOpL pTupOf (mL [(mLc (mItR1 (mL [(mVar 1)])) (.nm 14) mYes (mCall (fm__law_of k) (mL [(mVar 0), (mLst (mL [mFz (mC (.str "p")), mFz (mC (.non)), mFz (mC (.int 3)), mFz (mTup (mL [])), mFz (mC (.str "q"))]))])) [14])]))),
      (mAsg [0] (.nm 10) (mOpL pTupOf (mL [(mLc (mItR1 (mL [(mVar 1)])) (.nm 14) mYes (mOp2 pIx (mVar 7) (mOp2 pIx (mCall (fm__law_back k) (mL [(mVar 2)])) (mVar 14))) [14])]))),
      (mIfS (mBl (mOp2 pNe (mOpL pRepr (mL [(mCall (fm_moved k) (mPerm 2 [1, 0] (mL [(mVar 7), (mVar 2)])))])) (mOpL pRepr (mL [(mVar 10)])))) (mSs [(mRetM [0] (mC (.bl false)))]) (mSs [])),
      (mAsg [0] (.nm 12) (mOp2 pAdd (mLst (mL [mFz (mVar 2), mFz (mOpL pLstOf (mL [(mVar 2)])), mFz (mSl (mVar 2) mPart0 (mPart (mOp1 pNeg (mC (.int 1))))), mFz (mOp2 pAdd (mVar 2) (mTup (mL [mFz (mVar 1)]))), mFz (mOp1 pRev (mVar 2)), mFz (mOp2 pMul (mTup (mL [mFz (mC (.int 0))])) (mVar 1)), mFz (mC (.non)), mFz (mC (.int 7)), mFz (mOpL pTupOf (mL [(mLc (mItV (mVar 2)) (.nm 14) mYes (mOp2 pEq (mVar 14) (mC (.int 1))) [14])]))])) (mLc (mItR1 (mL [(mC (.int 5))])) (.nm 11) mYes (mCall (fm__law_bent k) (mL [(mVar 0), (mVar 2)])) [11]))),
      (mFor [0] (mItV (mVar 12)) (.nm 13) (mSs [(mAsg [0] (.nm 10) (mAndV (mOpL pIsi (mL [(mVar 13), (mC (.ty "tuple"))])) (mAndV (mOpL (lB fAll) (mL [(mLc (mItV (mVar 13)) (.nm 14) mYes (mCall (fm__law_is_int k) (mL [(mVar 14)])) [14])])) (mOp2 pEq (mOpL pSort (mL [(mVar 13)])) (mOpL pLstOf (mL [(mVar 4)])))))),
      (mIfS (mBl (mOp2 pNe (mOpL pRepr (mL [(mCall (fm_is_turn k) (mPerm 2 [0, 1] (mL [(mVar 1), (mVar 13)])))])) (mOpL pRepr (mL [(mVar 10)])))) (mSs [(mRetM [0] (mC (.bl false)))]) (mSs []))])),
      (mRetM [0] (mC (.bl true)))])
theorem e__law_right (k : Nat) : bodyM g.dn (g.ct (g.sem (k + 1)) d__law_right) d__law_right.st = b__law_right k := by kernel_rfl
theorem f__law_right (k : Nat) (ds : List Yv.D) : fm__law_right (k + 1) ds = (callM d__law_right (b__law_right k) ds).nox := by unfold fm__law_right; rw [e__law_right]
def b_law (k : Nat) : Ms := (mSs [(mFor [0] (mItV (mCall (fm__law_cells k) (mL [(mVar 0), (mC (.int 3))]))) (.nm 1) (mSs [(mAsg [0] (.nm 2) (mCall (fm__law_pot k) (mL [(mVar 0), (mVar 1)]))),
      (mIfS (mNot (mTru (mOpL (lB fAll) (mL [(mLc (mItR1 (mL [(mC (.int 5))])) (.nm 3) mYes (mCall (fm__law_right k) (mL [(mVar 2)])) [3])])))) (mSs [(mRetM [0] (mC (.bl false)))]) (mSs []))])),
      (mRetM [0] (mC (.bl true)))])
theorem e_law (k : Nat) : bodyM g.dn (g.ct (g.sem (k + 1)) d_law) d_law.st = b_law k := by kernel_rfl
theorem f_law (k : Nat) (ds : List Yv.D) : fm_law (k + 1) ds = (callM d_law (b_law k) ds).nox := by unfold fm_law; rw [e_law]
end Lw

set_option Elab.async false
set_option linter.all false
set_option maxRecDepth 100000
set_option maxHeartbeats 4000000
/-! Q1: evaluation of meanings by simp -/
namespace Yv
open PySem L2
theorem CR.nox_ok (d : D) (ds : List D) : (CR.ok d ds).nox = .ok d ds := rfl
theorem ss_nx {a : Ms} {r : List Ms} {δ δ1 : Env'} {X : SR} (h1 : a δ = .nx δ1) (h2 : mSs r δ1 = X) : mSs (a :: r) δ = X := by
  subst h2
  cases r with
  | nil => simp only [mSs, h1]; first | rfl | simp [mPass, mSeq, h1]
  | cons b r => simp only [mSs, mSeq, h1]
theorem ss_rt {a : Ms} {r : List Ms} {δ δ1 : Env'} {d : D} (h1 : a δ = .rt d δ1) : mSs (a :: r) δ = .rt d δ1 := by
  cases r with
  | nil => simp only [mSs, h1]; first | rfl | simp [mPass, mSeq, h1]
  | cons b r => simp only [mSs, mSeq, h1]
theorem run_rt {d : Df} {body : Ms} {ds ds' : List D} {r : D} {δ : Env'} (h1 : (decide (ds.length = d.ps.length) && decide (d.ps.length ≤ d.N.length) && pureOut d.P 0 ds) = true)
    (h2 : body (somes ds ++ List.replicate (d.N.length - ds.length) none) = .rt r δ) (h3 : finP d.P δ 0 ds = some ds') : (callM d body ds).nox = .ok r ds' := by
  simp only [Bool.and_eq_true, decide_eq_true_eq] at h1
  unfold callM
  rw [if_pos ⟨h1.1.1, h1.1.2, h1.2⟩, h2]
  simp only [h3, CR.nox]
theorem run_nx {d : Df} {body : Ms} {ds ds' : List D} {δ : Env'} (h1 : (decide (ds.length = d.ps.length) && decide (d.ps.length ≤ d.N.length) && pureOut d.P 0 ds) = true)
    (h2 : body (somes ds ++ List.replicate (d.N.length - ds.length) none) = .nx δ) (h3 : finP d.P δ 0 ds = some ds') : (callM d body ds).nox = .ok .non ds' := by
  simp only [Bool.and_eq_true, decide_eq_true_eq] at h1
  unfold callM
  rw [if_pos ⟨h1.1.1, h1.1.2, h1.2⟩, h2]
  simp only [h3, CR.nox]
theorem lentSlots_nil (ds : List D) : lentSlots [] ds = [] := by simp [lentSlots]
theorem lentSlots_dt (x : D) (as : List A) (d : D) (ds : List D) : lentSlots (.dt x :: as) (d :: ds) = lentSlots as ds := by simp [lentSlots]
theorem lentSlots_nm (k : Nat) (as : List A) (d : D) (ds : List D) : lentSlots (.nm k :: as) (d :: ds) = if d.pure = true then lentSlots as ds else k :: lentSlots as ds := by
  unfold lentSlots; simp only [List.zip_cons_cons, List.filterMap_cons]; cases d.pure <;> simp
theorem lentSlots_pure : ∀ (as : List A) {ds : List D}, D.pureL ds = true → lentSlots as ds = []
  | [], ds, _ => lentSlots_nil ds
  | a :: as, [], _ => by simp [lentSlots]
  | .dt x :: as, d :: ds, h => by
    simp only [D.pureL, Bool.and_eq_true] at h
    rw [lentSlots_dt]; exact lentSlots_pure as h.2
  | .nm k :: as, d :: ds, h => by
    simp only [D.pureL, Bool.and_eq_true] at h
    rw [lentSlots_nm, if_pos h.1]; exact lentSlots_pure as h.2
theorem lentAt_nil (ds : List D) (i : Nat) : lentAt [] ds i = none := by simp [lentAt]
theorem lentAt_dt (x : D) (as : List A) (d : D) (ds : List D) (i : Nat) : lentAt (.dt x :: as) (d :: ds) i = (lentAt as ds i).map (· + 1) := by
  simp [lentAt, List.findIdx?_cons, lent]
theorem lentAt_nm (k : Nat) (as : List A) (d : D) (ds : List D) (i : Nat) : lentAt (.nm k :: as) (d :: ds) i = if k = i ∧ d.pure = false then some 0 else (lentAt as ds i).map (· + 1) := by
  simp [lentAt, List.findIdx?_cons, lent]
theorem lentAt_pure : ∀ (as : List A) {ds : List D} (i : Nat), D.pureL ds = true → lentAt as ds i = none
  | [], ds, i, _ => lentAt_nil ds i
  | a :: as, [], i, _ => by simp [lentAt]
  | .dt x :: as, d :: ds, i, h => by
    simp only [D.pureL, Bool.and_eq_true] at h
    rw [lentAt_dt, lentAt_pure as i h.2]; rfl
  | .nm k :: as, d :: ds, i, h => by
    simp only [D.pureL, Bool.and_eq_true] at h
    rw [lentAt_nm, lentAt_pure as i h.2, if_neg]; rfl
    rintro ⟨_, q⟩; rw [h.1] at q; cases q
theorem back_pure (as : List A) {ds : List D} (ds' : List D) (δ : Env') (h : D.pureL ds = true) : back as ds ds' δ = δ := by
  unfold back
  apply List.ext_getElem?
  intro i
  simp only [List.getElem?_mapIdx, lentAt_pure as i h]
  cases δ[i]? <;> rfl
theorem finP_nil (P : List Nat) (δ : Env') (i : Nat) : finP P δ i [] = some [] := by unfold finP; rfl
theorem pureL_nil : D.pureL [] = true := rfl
theorem pureL_cons (d : D) (ds : List D) : D.pureL (d :: ds) = (d.pure && D.pureL ds) := rfl
theorem pure_tup (ds : List D) : (D.tup ds).pure = D.pureL ds := rfl
theorem pure_lst (o : Bool) (ds : List D) : (D.lst o ds).pure = (!o && D.pureL ds) := rfl
theorem pure_int (i : Int) : (D.int i).pure = true := rfl
theorem pure_bl (i : Bool) : (D.bl i).pure = true := rfl
theorem pure_str (i : Str) : (D.str i).pure = true := rfl
theorem pure_scr (i : List Int) : (D.scr i).pure = true := rfl
theorem pure_non : D.non.pure = true := rfl
theorem pureL_map {α : Type} (f : α → D) (ns : List α) (h : ∀ a ∈ ns, (f a).pure = true) : D.pureL (ns.map f) = true := pureL_iff.mpr fun d q => by obtain ⟨n, m, rfl⟩ := List.mem_map.mp q; exact h n m
end Yv

set_option Elab.async false
set_option linter.all false
set_option maxRecDepth 100000
set_option maxHeartbeats 4000000
/-! Q2: loops and comprehensions of meanings -/
namespace Yv
open PySem L2
/-- a for by an invariant -/
theorem forL_inv {P : List Nat} {t : Tg} {b : Ms} (I : Nat → Env' → Prop) : ∀ (ds : List D) (k : Nat) (δ : Env'), I k δ →
    (∀ i d δ, ds[i]? = some d → I (k + i) δ → ∃ δ1 δ2, tgt P t d δ = some δ1 ∧ b δ1 = .nx δ2 ∧ I (k + i + 1) δ2) → ∃ δ', mForL P t b ds δ = .nx δ' ∧ I (k + ds.length) δ'
  | [], k, δ, h0, _ => ⟨δ, by unfold mForL; rfl, h0⟩
  | d :: ds, k, δ, h0, hs => by
    obtain ⟨δ1, δ2, q1, q2, q3⟩ := hs 0 d δ rfl h0
    obtain ⟨δ', g1, g2⟩ := forL_inv I ds (k + 1) δ2 q3 (fun i e ε w g => by
      have := hs (i + 1) e ε (by simpa using w) (by rw [show k + (i + 1) = k + 1 + i by omega]; exact g)
      rw [show k + (i + 1) = k + 1 + i by omega] at this; exact this)
    refine ⟨δ', ?_, by rw [show k + (d :: ds).length = k + 1 + ds.length by simp; omega]; exact g2⟩
    unfold mForL; rw [q1]; simp only [q2]; exact g1
/-- a while by an invariant and a measure -/
theorem while_inv {t : Mn Bool} {b : Ms} (I : Env' → Prop) (m : Env' → Nat) (E : Env' → Prop)
    (hs : ∀ δ, I δ → (∃ δ1, t δ = .ok false δ1 ∧ E δ1) ∨ ∃ δ1 δ2, t δ = .ok true δ1 ∧ b δ1 = .nx δ2 ∧ I δ2 ∧ m δ2 < m δ) : ∀ (n : Nat) (δ : Env'), I δ → m δ < n → ∃ δ', mWhile t b n δ = .nx δ' ∧ E δ'
  | 0, δ, _, h => absurd h (Nat.not_lt_zero _)
  | n + 1, δ, h0, h => by
    rcases hs δ h0 with ⟨δ1, q1, q2⟩ | ⟨δ1, δ2, q1, q2, q3, q4⟩
    · exact ⟨δ1, by unfold mWhile; rw [q1]; simp, q2⟩
    · obtain ⟨δ', g1, g2⟩ := while_inv I m E hs n δ2 q3 (by omega)
      exact ⟨δ', by unfold mWhile; rw [q1]; simp [q2, g1], g2⟩
/-- a comprehension by an invariant over what is found and the environment -/
theorem lcRun_inv {t : Tg} {tt : Mn Bool} {te : Mn A} {vs : List Nat} (I : Nat → List D → Env' → Prop) : ∀ (ds : List D) (k : Nat) (acc : List D) (δ : Env'), I k acc δ → acc.length + ds.length ≤ 1000000 →
    (∀ i d acc δ, ds[i]? = some d → I (k + i) acc δ → (∃ y δ2, lcStep t tt te vs d δ = .ok (some y) δ2 ∧ I (k + i + 1) (acc ++ [y]) δ2) ∨ ∃ δ2, lcStep t tt te vs d δ = .ok none δ2 ∧ I (k + i + 1) acc δ2) →
    ∃ ys δ', lcRun t tt te vs ds δ acc = .ok ys δ' ∧ I (k + ds.length) ys δ'
  | [], k, acc, δ, h0, _, _ => ⟨acc, δ, by unfold lcRun; rfl, h0⟩
  | d :: ds, k, acc, δ, h0, hl, hs => by
    have hs' : ∀ i e acc ε, ds[i]? = some e → I (k + 1 + i) acc ε → (∃ y δ2, lcStep t tt te vs e ε = .ok (some y) δ2 ∧ I (k + 1 + i + 1) (acc ++ [y]) δ2) ∨ ∃ δ2, lcStep t tt te vs e ε = .ok none δ2 ∧ I (k + 1 + i + 1) acc δ2 := fun i e acc ε w g => by
      have := hs (i + 1) e acc ε (by simpa using w) (by rw [show k + (i + 1) = k + 1 + i by omega]; exact g)
      rw [show k + (i + 1) = k + 1 + i by omega] at this; exact this
    have el : k + (d :: ds).length = k + 1 + ds.length := by simp; omega
    simp only [List.length_cons] at hl
    rcases hs 0 d acc δ rfl h0 with ⟨y, δ2, q1, q2⟩ | ⟨δ2, q1, q2⟩
    · obtain ⟨ys, δ', g1, g2⟩ := lcRun_inv I ds (k + 1) (acc ++ [y]) δ2 q2 (by simp; omega) hs'
      refine ⟨ys, δ', ?_, by rw [el]; exact g2⟩
      unfold lcRun; simp only [q1]; rw [if_pos]
      · exact g1
      · simp only [sizeOk, decide_eq_true_eq]; omega
    · obtain ⟨ys, δ', g1, g2⟩ := lcRun_inv I ds (k + 1) acc δ2 q2 (by omega) hs'
      refine ⟨ys, δ', ?_, by rw [el]; exact g2⟩
      unfold lcRun; simp only [q1]; exact g1
/-- a comprehension that leaves the environment as it is -/
theorem lcRun_pure {t : Tg} {tt : Mn Bool} {te : Mn A} {vs : List Nat} {δ : Env'} (g : D → Option D) : ∀ (ds acc : List D), acc.length + ds.length ≤ 1000000 → (∀ d ∈ ds, lcStep t tt te vs d δ = .ok (g d) δ) →
    lcRun t tt te vs ds δ acc = .ok (acc ++ ds.filterMap g) δ
  | [], acc, _, _ => by unfold lcRun; simp
  | d :: ds, acc, hl, hs => by
    simp only [List.length_cons] at hl
    have h1 := hs d (by simp)
    have h2 : ∀ d ∈ ds, lcStep t tt te vs d δ = .ok (g d) δ := fun e m => hs e (by simp [m])
    unfold lcRun; rw [h1]
    cases e : g d with
    | none => simp only []; rw [lcRun_pure g ds acc (by omega) h2]; simp [e]
    | some y =>
      simp only []
      rw [if_pos (by simp only [sizeOk, decide_eq_true_eq]; omega), lcRun_pure g ds (acc ++ [y]) (by simp; omega) h2]
      simp [e]
theorem lcRun_map {t : Tg} {tt : Mn Bool} {te : Mn A} {vs : List Nat} {δ : Env'} (f : D → D) (ds : List D) (hl : ds.length ≤ 1000000) (hs : ∀ d ∈ ds, lcStep t tt te vs d δ = .ok (some (f d)) δ) :
    lcRun t tt te vs ds δ [] = .ok (ds.map f) δ := by
  rw [lcRun_pure (fun d => some (f d)) ds [] (by simpa using hl) hs]; simp
theorem lc_map {mi : Mn (List D)} {t : Tg} {tt : Mn Bool} {te : Mn A} {vs : List Nat} {δ δ1 : Env'} {ds : List D} (f : D → D) (h1 : mi δ = .ok ds δ1) (hv : vsOk δ1 vs = true) (hl : ds.length ≤ 1000000)
    (hs : ∀ d ∈ ds, lcStep t tt te vs d δ1 = .ok (some (f d)) δ1) : mLc mi t tt te vs δ = .ok (.dt (.lst true (ds.map f))) δ1 := by
  unfold mLc; rw [h1]; simp [hv, lcRun_map f ds hl hs]
theorem lc_filt {mi : Mn (List D)} {t : Tg} {tt : Mn Bool} {te : Mn A} {vs : List Nat} {δ δ1 : Env'} {ds : List D} (g : D → Option D) (h1 : mi δ = .ok ds δ1) (hv : vsOk δ1 vs = true) (hl : ds.length ≤ 1000000)
    (hs : ∀ d ∈ ds, lcStep t tt te vs d δ1 = .ok (g d) δ1) : mLc mi t tt te vs δ = .ok (.dt (.lst true (ds.filterMap g))) δ1 := by
  unfold mLc; rw [h1]; simp [hv, lcRun_pure g ds [] (by simpa using hl) hs]
theorem lc_inv {mi : Mn (List D)} {t : Tg} {tt : Mn Bool} {te : Mn A} {vs : List Nat} {δ δ1 : Env'} {ds : List D} (I : Nat → List D → Env' → Prop) (h1 : mi δ = .ok ds δ1) (hv : vsOk δ1 vs = true) (hl : ds.length ≤ 1000000) (h0 : I 0 [] δ1)
    (hs : ∀ i d acc δ, ds[i]? = some d → I i acc δ → (∃ y δ2, lcStep t tt te vs d δ = .ok (some y) δ2 ∧ I (i + 1) (acc ++ [y]) δ2) ∨ ∃ δ2, lcStep t tt te vs d δ = .ok none δ2 ∧ I (i + 1) acc δ2) :
    ∃ ys δ', mLc mi t tt te vs δ = .ok (.dt (.lst true ys)) δ' ∧ I ds.length ys δ' := by
  obtain ⟨ys, δ', g1, g2⟩ := lcRun_inv (t := t) (tt := tt) (te := te) (vs := vs) I ds 0 [] δ1 h0 (by simpa using hl) (fun i d acc δ w g => by simpa using hs i d acc δ w (by simpa using g))
  exact ⟨ys, δ', by unfold mLc; rw [h1]; simp [hv, g1], by simpa using g2⟩
theorem for_inv {P : List Nat} {mi : Mn (List D)} {t : Tg} {b : Ms} {δ δ1 : Env'} {ds : List D} (I : Nat → Env' → Prop) (h1 : mi δ = .ok ds δ1) (h0 : I 0 δ1)
    (hs : ∀ i d δ, ds[i]? = some d → I i δ → ∃ δ1 δ2, tgt P t d δ = some δ1 ∧ b δ1 = .nx δ2 ∧ I (i + 1) δ2) : ∃ δ', mFor P mi t b δ = .nx δ' ∧ I ds.length δ' := by
  obtain ⟨δ', g1, g2⟩ := forL_inv (P := P) (t := t) (b := b) I ds 0 δ1 h0 (fun i d δ w g => by simpa using hs i d δ w (by simpa using g))
  exact ⟨δ', by unfold mFor; rw [h1]; simpa using g1, by simpa using g2⟩
end Yv

set_option Elab.async false
set_option linter.all false
set_option maxRecDepth 100000
set_option maxHeartbeats 4000000
/-! N1: data that can be compared and shown -/
namespace Yv
open PySem L2
/-- d is data p, of depth at most n, its text of at most m signs -/
structure Dat (d : D) (p : PyData) (n m : Nat) : Prop where
  py : d.py = some p
  sh : p.showable = true
  hd : p.hasDict = false
  lay : p.canLay0 = true
  dep : p.depth ≤ n
  len : p.shown.length ≤ m
  ok : PyData.strOk p.shown = true
structure DatL (ds : List D) (ps : List PyData) (n m : Nat) : Prop where
  py : D.pyL ds = some ps
  sh : PyData.showableAll ps = true
  hd : PyData.hasDictAll ps = false
  lay : PyData.canLayAll0 ps = true
  dep : PyData.depthAll ps ≤ n
  len : piled (PyData.shownAll ps) ≤ m
  ok : ∀ t ∈ PyData.shownAll ps, PyData.strOk t = true
theorem strOk_append {a b : Str} (h1 : PyData.strOk a = true) (h2 : PyData.strOk b = true) : PyData.strOk (a ++ b) = true := by
  show (a.cps ++ b.cps).all _ = true
  rw [Array.all_append]
  unfold PyData.strOk at h1 h2
  rw [h1, h2]; rfl
theorem strOk_lit (s : String) : PyData.strOk (Str.ofString s) = true := by
  unfold PyData.strOk
  rw [Str.ofString_eq_toList]
  simp only [List.all_toArray, List.all_map, List.all_eq_true, Function.comp, decide_eq_true_eq]
  intro c _
  have := c.valid
  simp [UInt32.isValidChar, Nat.isValidChar] at this
  show c.val.toNat < 0x110000
  have e : c.val.toNat = c.toNat := rfl
  rw [e]; omega
theorem len_lit (s : String) : (Str.ofString s).length = s.length := by
  rw [Str.ofString_eq_toList]; simp [Str.length, String.length_toList]
theorem dat_non (n : Nat) : Dat .non .none n 4 := ⟨rfl, rfl, rfl, rfl, Nat.zero_le _, (len_lit "None").symm ▸ (by decide), strOk_lit "None"⟩
theorem dat_bl (b : Bool) (n : Nat) : Dat (.bl b) (.bool b) n 5 := ⟨rfl, rfl, rfl, rfl, Nat.zero_le _, by cases b <;> simp only [PyData.shown] <;> decide +kernel, by cases b <;> exact strOk_lit _⟩
theorem dat_int {i : Int} (n : Nat) (h : i.natAbs < 10 ^ 9) : Dat (.int i) (.int i) n 10 := by
  refine ⟨rfl, ?_, rfl, rfl, Nat.zero_le _, ?_, strOk_lit _⟩
  · simp only [PyData.showable, decide_eq_true_eq]
    by_cases e : i.natAbs = 0
    · rw [e]; decide
    · have : i.natAbs.log2 < 30 := (Nat.log2_lt e).mpr (Nat.lt_of_lt_of_le h (by decide))
      omega
  · show (Str.ofString (toString i)).length ≤ 10
    rw [len_lit]
    exact int_text_length_le10 (k := 9) (by decide) h
theorem datL_nil (n : Nat) : DatL [] [] n 0 := ⟨rfl, rfl, rfl, rfl, Nat.zero_le _, Nat.le_refl _, by simp [PyData.shownAll]⟩
theorem datL_cons {d : D} {ds : List D} {p : PyData} {ps : List PyData} {n a b : Nat} (h : Dat d p n a) (g : DatL ds ps n b) : DatL (d :: ds) (p :: ps) n (a + 2 + b) := by
  refine ⟨?_, ?_, ?_, ?_, ?_, ?_, ?_⟩
  · simp only [D.pyL, h.py, g.py]
  · simp only [PyData.showableAll, h.sh, g.sh, Bool.and_self]
  · simp only [PyData.hasDictAll, h.hd, g.hd, Bool.or_self]
  · simp only [PyData.canLayAll0, h.lay, g.lay, Bool.and_self]
  · simp only [PyData.depthAll]; have := h.dep; have := g.dep; omega
  · simp only [PyData.shownAll, piled_cons]; have := h.len; have := g.len; omega
  · intro t m
    simp only [PyData.shownAll, List.mem_cons] at m
    rcases m with rfl | m
    · exact h.ok
    · exact g.ok t m
theorem strOk_join : ∀ (ts : List Str), (∀ t ∈ ts, PyData.strOk t = true) → PyData.strOk (Str.join ", " ts) = true
  | [], _ => by decide +kernel
  | [x], h => h x (by simp)
  | x :: y :: r, h => by
    have ih := strOk_join (y :: r) fun t m => h t (by simp [List.mem_cons.mp m])
    show PyData.strOk (x ++ ", " ++ Str.join ", " (y :: r)) = true
    exact strOk_append (strOk_append (h x (by simp)) (strOk_lit _)) ih
theorem join_len (ts : List Str) : (Str.join ", " ts).length ≤ piled ts := by
  by_cases e : ts = []
  · subst e; decide
  · have := join_length_add ts e; omega
theorem dat_tup {ds : List D} {ps : List PyData} {n m : Nat} (h : DatL ds ps n m) : Dat (.tup ds) (.tuple ps) (n + 1) (m + 3) := by
  refine ⟨by simp only [D.py, h.py]; rfl, by simpa only [PyData.showable] using h.sh, by simpa only [PyData.hasDict] using h.hd, by simpa only [PyData.canLay0] using h.lay, by simp only [PyData.depth]; have := h.dep; omega, ?_, ?_⟩
  · simp only [PyData.shown, tupleText]
    rw [strLen_append, strLen_append]
    have e1 : ((("(" : String) : Str)).length = 1 := rfl
    have e3 : (((if (PyData.shownAll ps).length == 1 then ",)" else ")" : String) : Str)).length ≤ 2 := by split <;> decide
    have := join_len (PyData.shownAll ps)
    have := h.len
    omega
  · simp only [PyData.shown, tupleText]
    exact strOk_append (strOk_append (strOk_lit _) (strOk_join _ h.ok)) (strOk_lit _)
theorem datL_all {α : Type} {f : α → D} {g : α → PyData} {n m : Nat} : ∀ (l : List α), (∀ a ∈ l, Dat (f a) (g a) n m) → DatL (l.map f) (l.map g) n (l.length * (m + 2))
  | [], _ => by simpa using datL_nil n
  | a :: l, h => by
    have := datL_cons (h a (by simp)) (datL_all l fun b q => h b (by simp [q]))
    simp only [List.map_cons, List.length_cons, Nat.add_mul, Nat.one_mul]
    rw [Nat.add_comm]; exact this
theorem Dat.shaped {d : D} {p : PyData} {n m : Nat} (h : Dat d p n m) (hn : n ≤ 60) : SeqAt.shaped p = true := by
  unfold SeqAt.shaped; rw [h.lay]; have := h.dep; simp; omega
theorem Dat.eq {d e : D} {p q : PyData} {n m n' m' : Nat} (h : Dat d p n m) (g : Dat e q n' m') (hn : n ≤ 60) (hn' : n' ≤ 60) : pEq d e = some (.bl (PyData.eqv p q)) := by
  unfold pEq peq; rw [h.py, g.py]; simp [h.shaped hn, g.shaped hn']
theorem Dat.ne {d e : D} {p q : PyData} {n m n' m' : Nat} (h : Dat d p n m) (g : Dat e q n' m') (hn : n ≤ 60) (hn' : n' ≤ 60) : pNe d e = some (.bl !(PyData.eqv p q)) := by
  unfold pNe peq; rw [h.py, g.py]; simp [h.shaped hn, g.shaped hn']
theorem Dat.repr {d : D} {p : PyData} {n m : Nat} (h : Dat d p n m) (hn : n ≤ 40) (hm : m ≤ 1000000) : pRepr [d] = some (.str p.shown) := by
  unfold pRepr; simp only [h.py]
  rw [if_pos]
  unfold reprOk sizeOk
  have := h.dep; have := h.len
  simp only [h.sh, h.hd, Bool.not_false, Bool.true_and, Bool.and_eq_true, decide_eq_true_eq]; omega
theorem str_ne (x : Str) (h : PyData.strOk x = true) : pNe (.str x) (.str x) = some (.bl false) := by
  unfold pNe peq; simp [D.py, SeqAt.shaped, PyData.canLay0, h, PyData.depth, PyData.eqv]
/-- what is shown of one value is alike -/
theorem Dat.same {d : D} {p : PyData} {n m : Nat} (h : Dat d p n m) : pNe (.str p.shown) (.str p.shown) = some (.bl false) := str_ne _ h.ok
theorem eqv_same {d : D} {p : PyData} {n m : Nat} (h : Dat d p n m) : PyData.eqv p p = true := SeqAt.eqv_refl_plain p (PyData.plain_of_canLay0 p h.lay)
end Yv

set_option Elab.async false
set_option linter.all false
/-! M1: turns of n places as lists -/
namespace Mt
open List
structure IsT (n : Nat) (p : List Nat) : Prop where
  len : p.length = n
  nd : p.Nodup
  lt : ∀ x ∈ p, x < n
def ap (p : List Nat) (i : Nat) : Nat := p.getD i 0
theorem ap_eq {p : List Nat} {i : Nat} (h : i < p.length) : ap p i = p[i] := by unfold ap; simp [List.getD, h]
theorem nodup_fill {n : Nat} {l : List Nat} (h : l.Nodup) (hl : ∀ x ∈ l, x < n) : (l ++ (range n).filter fun x => decide (x ∉ l)).Perm (range n) := by
  rw [perm_ext_iff_of_nodup]
  · intro a; simp only [mem_append, mem_filter, mem_range, decide_eq_true_eq]
    constructor
    · rintro (m | m)
      · exact hl a m
      · exact m.1
    · intro m; by_cases q : a ∈ l
      · exact .inl q
      · exact .inr ⟨m, q⟩
  · rw [nodup_append]
    refine ⟨h, nodup_range.filter _, ?_⟩
    rintro a m b q rfl
    simp at q; exact q.2 m
  · exact nodup_range
theorem nodup_le {n : Nat} {l : List Nat} (h : l.Nodup) (hl : ∀ x ∈ l, x < n) : l.length ≤ n := by
  have := (nodup_fill h hl).length_eq
  simp at this; omega
theorem IsT.perm {n : Nat} {p : List Nat} (h : IsT n p) : p.Perm (range n) := by
  have q := nodup_fill h.nd h.lt
  have e := q.length_eq
  simp only [length_append, length_range, h.len] at e
  have : ((range n).filter fun x => decide (x ∉ p)) = [] := by
    apply List.eq_nil_of_length_eq_zero; omega
  rw [this] at q; simpa using q
theorem IsT.of_perm {n : Nat} {p : List Nat} (h : p.Perm (range n)) : IsT n p := by
  refine ⟨by simpa using h.length_eq, h.nodup_iff.mpr nodup_range, fun x m => ?_⟩
  have := h.mem_iff.mp m; simpa using this
theorem IsT.mem {n : Nat} {p : List Nat} (h : IsT n p) {x : Nat} (q : x < n) : x ∈ p := h.perm.mem_iff.mpr (by simpa using q)
theorem IsT.ap_lt {n : Nat} {p : List Nat} (h : IsT n p) {x : Nat} (q : x < n) : ap p x < n := by
  rw [ap_eq (by rw [h.len]; exact q)]; exact h.lt _ (getElem_mem _)
theorem IsT.ap_inj {n : Nat} {p : List Nat} (h : IsT n p) {x y : Nat} (hx : x < n) (hy : y < n) (e : ap p x = ap p y) : x = y := by
  have hx' : x < p.length := by rw [h.len]; exact hx
  have hy' : y < p.length := by rw [h.len]; exact hy
  rw [ap_eq hx', ap_eq hy'] at e
  exact (getElem_inj h.nd).mp e
theorem ext_ap {n : Nat} {p q : List Nat} (hp : p.length = n) (hq : q.length = n) (h : ∀ i, i < n → ap p i = ap q i) : p = q := by
  apply List.ext_getElem (by rw [hp, hq])
  intro i h1 h2
  have := h i (by omega)
  rwa [ap_eq h1, ap_eq h2] at this
def idt (n : Nat) : List Nat := range n
theorem idt_T (n : Nat) : IsT n (idt n) := .of_perm (.refl _)
theorem ap_idt {n i : Nat} (h : i < n) : ap (idt n) i = i := by rw [ap_eq (by simpa [idt] using h)]; simp [idt]
/-- first p, then q -/
def thn (p q : List Nat) : List Nat := p.map (ap q)
theorem thn_len (p q : List Nat) : (thn p q).length = p.length := by simp [thn]
theorem ap_thn {p q : List Nat} {i : Nat} (h : i < p.length) : ap (thn p q) i = ap q (ap p i) := by
  rw [ap_eq (by simpa [thn] using h), ap_eq h]; simp [thn]
theorem nodup_map_on {f : Nat → Nat} : ∀ {l : List Nat}, l.Nodup → (∀ x ∈ l, ∀ y ∈ l, f x = f y → x = y) → (l.map f).Nodup
  | [], _, _ => by simp
  | a :: l, h, hi => by
    rw [nodup_cons] at h
    rw [map_cons, nodup_cons]
    refine ⟨fun m => ?_, nodup_map_on h.2 fun x hx y hy => hi x (by simp [hx]) y (by simp [hy])⟩
    obtain ⟨b, hb, e⟩ := mem_map.mp m
    exact h.1 (hi b (by simp [hb]) a (by simp) e ▸ hb)
theorem IsT.thn {n : Nat} {p q : List Nat} (hp : IsT n p) (hq : IsT n q) : IsT n (thn p q) := by
  refine ⟨by rw [thn_len, hp.len], nodup_map_on hp.nd fun x hx y hy e => hq.ap_inj (hp.lt x hx) (hp.lt y hy) e, fun x m => ?_⟩
  obtain ⟨b, hb, rfl⟩ := mem_map.mp m
  exact hq.ap_lt (hp.lt b hb)
/-- back -/
def bk (p : List Nat) : List Nat := (range p.length).map fun x => p.idxOf x
theorem bk_len (p : List Nat) : (bk p).length = p.length := by simp [bk]
theorem ap_bk {p : List Nat} {i : Nat} (h : i < p.length) : ap (bk p) i = p.idxOf i := by
  rw [ap_eq (by simpa [bk] using h)]; simp [bk]
theorem IsT.ap_bk_ap {n : Nat} {p : List Nat} (h : IsT n p) {i : Nat} (q : i < n) : ap (bk p) (ap p i) = i := by
  rw [ap_bk (by rw [h.len]; exact h.ap_lt q), ap_eq (by rw [h.len]; exact q)]
  exact h.nd.idxOf_getElem i _
theorem IsT.idx_lt {n : Nat} {p : List Nat} (h : IsT n p) {i : Nat} (q : i < n) : p.idxOf i < n := by
  rw [← h.len]; exact idxOf_lt_length_of_mem (h.mem q)
theorem IsT.ap_ap_bk {n : Nat} {p : List Nat} (h : IsT n p) {i : Nat} (q : i < n) : ap p (ap (bk p) i) = i := by
  rw [ap_bk (by rw [h.len]; exact q)]
  have := h.idx_lt q
  rw [ap_eq (by rw [h.len]; exact this)]
  exact getElem_idxOf _
theorem IsT.bk {n : Nat} {p : List Nat} (h : IsT n p) : IsT n (bk p) := by
  refine ⟨by rw [bk_len, h.len], nodup_map_on nodup_range fun x hx y hy e => ?_, fun x m => ?_⟩
  · simp at hx hy; rw [h.len] at hx hy
    have e1 := h.ap_ap_bk hx
    have e2 := h.ap_ap_bk hy
    rw [ap_bk (by rw [h.len]; assumption)] at e1 e2
    rw [← e1, ← e2, e]
  · obtain ⟨b, hb, rfl⟩ := mem_map.mp m
    simp at hb; rw [h.len] at hb
    exact h.idx_lt hb
end Mt

set_option Elab.async false
set_option linter.all false
/-! M2: parity of a turn: pairs out of sequence, rounds -/
namespace Mt
open List
def xs1 (f : Nat → Bool) : List Nat → Bool
  | [] => false
  | y :: l => xor (f y) (xs1 f l)
def XP (f : Nat → Nat → Bool) : List Nat → Bool
  | [] => false
  | x :: l => xor (xs1 (f x) l) (XP f l)
theorem xs1_perm {f : Nat → Bool} {l l' : List Nat} (h : l.Perm l') : xs1 f l = xs1 f l' := by
  induction h with
  | nil => rfl
  | cons x _ ih => simp only [xs1, ih]
  | swap x y l => simp only [xs1]; cases f x <;> cases f y <;> cases xs1 f l <;> rfl
  | trans _ _ h1 h2 => rw [h1, h2]
theorem xs1_congr {f g : Nat → Bool} : ∀ {l : List Nat}, (∀ y ∈ l, f y = g y) → xs1 f l = xs1 g l
  | [], _ => rfl
  | y :: l, h => by simp only [xs1]; rw [h y (by simp), xs1_congr fun z m => h z (by simp [m])]
theorem xs1_xor {f g : Nat → Bool} : ∀ {l : List Nat}, xs1 (fun y => xor (f y) (g y)) l = xor (xs1 f l) (xs1 g l)
  | [] => rfl
  | y :: l => by simp only [xs1, xs1_xor]; cases f y <;> cases g y <;> cases xs1 f l <;> cases xs1 g l <;> rfl
theorem xs1_map {f : Nat → Bool} {q : Nat → Nat} : ∀ {l : List Nat}, xs1 f (l.map q) = xs1 (fun y => f (q y)) l
  | [] => rfl
  | y :: l => by simp only [map_cons, xs1, xs1_map]
theorem xs1_false {f : Nat → Bool} : ∀ {l : List Nat}, (∀ y ∈ l, f y = false) → xs1 f l = false
  | [], _ => rfl
  | y :: l, h => by simp only [xs1]; rw [h y (by simp), xs1_false fun z m => h z (by simp [m])]; rfl
theorem XP_perm {f : Nat → Nat → Bool} {l l' : List Nat} (h : l.Perm l') : l.Nodup → (∀ x ∈ l, ∀ y ∈ l, x ≠ y → f x y = f y x) → XP f l = XP f l' := by
  induction h with
  | nil => intros; rfl
  | cons x p ih =>
    intro nd sy
    simp only [XP]
    rw [xs1_perm p, ih (nodup_cons.mp nd).2 fun a ha b hb => sy a (by simp [ha]) b (by simp [hb])]
  | swap x y l =>
    intro nd sy
    simp only [XP, xs1]
    have : y ≠ x := by rintro rfl; simp at nd
    rw [sy y (by simp) x (by simp) this]
    cases f x y <;> cases xs1 (f x) l <;> cases xs1 (f y) l <;> cases XP f l <;> rfl
  | trans p1 p2 h1 h2 =>
    intro nd sy
    rw [h1 nd sy, h2 (p1.nodup_iff.mp nd) fun a ha b hb => sy a (p1.mem_iff.mpr ha) b (p1.mem_iff.mpr hb)]
theorem XP_xor {f g : Nat → Nat → Bool} : ∀ {l : List Nat}, XP (fun x y => xor (f x y) (g x y)) l = xor (XP f l) (XP g l)
  | [] => rfl
  | x :: l => by
    simp only [XP, XP_xor, xs1_xor]
    cases xs1 (f x) l <;> cases xs1 (g x) l <;> cases XP f l <;> cases XP g l <;> rfl
theorem XP_map {f : Nat → Nat → Bool} {q : Nat → Nat} : ∀ {l : List Nat}, XP f (l.map q) = XP (fun x y => f (q x) (q y)) l
  | [] => rfl
  | x :: l => by simp only [map_cons, XP, XP_map, xs1_map]
theorem XP_false {f : Nat → Nat → Bool} : ∀ {l : List Nat}, (∀ x ∈ l, ∀ y ∈ l, f x y = false) → XP f l = false
  | [], _ => rfl
  | x :: l, h => by
    simp only [XP]
    rw [xs1_false fun y m => h x (by simp) y (by simp [m]), XP_false fun a ha b hb => h a (by simp [ha]) b (by simp [hb])]; rfl
abbrev gtB (x y : Nat) : Bool := decide (y < x)
theorem XP_range' : ∀ (n s : Nat), XP gtB (range' s n) = false
  | 0, _ => rfl
  | n + 1, s => by
    rw [range'_succ]
    simp only [XP]
    rw [XP_range' n (s + 1), xs1_false]; · rfl
    intro y m
    simp only [mem_range'] at m
    obtain ⟨i, _, rfl⟩ := m
    simp only [gtB, decide_eq_false_iff_not]; omega
theorem XP_range (n : Nat) : XP gtB (range n) = false := by rw [range_eq_range']; exact XP_range' n 0
/-- whether the pairs out of sequence are odd -/
def inv (p : List Nat) : Bool := XP gtB p
def gq (q : List Nat) (x y : Nat) : Bool := xor (gtB x y) (gtB (ap q x) (ap q y))
theorem gq_symm {n : Nat} {q : List Nat} (hq : IsT n q) {x y : Nat} (hx : x < n) (hy : y < n) (e : x ≠ y) : gq q x y = gq q y x := by
  unfold gq gtB
  have e2 : ap q x ≠ ap q y := fun w => e (hq.ap_inj hx hy w)
  rcases Nat.lt_or_gt_of_ne e with h | h <;> rcases Nat.lt_or_gt_of_ne e2 with h2 | h2 <;> simp [h, h2, Nat.lt_asymm h, Nat.lt_asymm h2]
theorem inv_map {n : Nat} {p q : List Nat} (hp : IsT n p) (hq : IsT n q) : inv (thn p q) = xor (inv p) (XP (gq q) (range n)) := by
  unfold inv thn
  rw [XP_map, ← XP_perm hp.perm hp.nd fun x hx y hy e => gq_symm hq (hp.lt x hx) (hp.lt y hy) e]
  have : gq q = fun x y => xor (gtB x y) (gtB (ap q x) (ap q y)) := rfl
  rw [this, XP_xor]
  cases XP gtB p <;> simp
theorem thn_idt {n : Nat} {q : List Nat} (hq : IsT n q) : thn (idt n) q = q := by
  refine ext_ap (n := n) (by rw [thn_len]; simp [idt]) hq.len fun i h => ?_
  rw [ap_thn (by simpa [idt] using h), ap_idt h]
theorem inv_gq {n : Nat} {q : List Nat} (hq : IsT n q) : inv q = XP (gq q) (range n) := by
  have := inv_map (idt_T n) hq
  rw [thn_idt hq] at this
  rw [this, show inv (idt n) = false from XP_range n]; simp
theorem inv_thn {n : Nat} {p q : List Nat} (hp : IsT n p) (hq : IsT n q) : inv (thn p q) = xor (inv p) (inv q) := by
  rw [inv_map hp hq, ← inv_gq hq]
/-! exchanges -/
def swf (a b x : Nat) : Nat := if x = a then b else if x = b then a else x
def swp (n a b : Nat) : List Nat := (range n).map (swf a b)
theorem ap_rmap {n i : Nat} {f : Nat → Nat} (h : i < n) : ap ((range n).map f) i = f i := by rw [ap_eq (by simpa using h)]; simp
theorem rmap_T {n : Nat} {f : Nat → Nat} (hl : ∀ x, x < n → f x < n) (hi : ∀ x y, x < n → y < n → f x = f y → x = y) : IsT n ((range n).map f) := by
  refine ⟨by simp, nodup_map_on nodup_range fun x hx y hy e => ?_, fun x m => ?_⟩
  · exact hi x y (by simpa using hx) (by simpa using hy) e
  · obtain ⟨b, hb, rfl⟩ := mem_map.mp m
    exact hl b (by simpa using hb)
theorem swf_swf (a b x : Nat) : swf a b (swf a b x) = x := by
  unfold swf; by_cases h1 : x = a
  · subst h1; by_cases h2 : b = x <;> simp [h2]
  · by_cases h2 : x = b
    · subst h2; simp [h1]
    · simp [h1, h2]
theorem swp_T {n a b : Nat} (ha : a < n) (hb : b < n) : IsT n (swp n a b) := by
  refine rmap_T (fun x h => ?_) fun x y _ _ e => ?_
  · unfold swf; split
    · exact hb
    · split
      · exact ha
      · exact h
  · rw [← swf_swf a b x, e, swf_swf]
theorem inv_swp {n a b : Nat} (ha : a < n) (hb : b < n) (e : a ≠ b) : inv (swp n a b) = true := by
  have hT := swp_T ha hb
  rw [inv_gq hT]
  have hp : ([a, b] ++ (range n).filter fun x => decide (x ∉ [a, b])).Perm (range n) := nodup_fill (by simp [e]) (by intro x m; simp at m; rcases m with rfl | rfl <;> assumption)
  rw [← XP_perm hp (hp.nodup_iff.mpr nodup_range) fun x hx y hy w => gq_symm hT (by simpa using hp.mem_iff.mp hx) (by simpa using hp.mem_iff.mp hy) w]
  have ea : ap (swp n a b) a = b := by unfold swp; rw [ap_rmap ha]; simp [swf]
  have eb : ap (swp n a b) b = a := by unfold swp; rw [ap_rmap hb]; unfold swf; rw [if_neg (Ne.symm e)]; simp
  have ey : ∀ y ∈ (range n).filter (fun x => decide (x ∉ [a, b])), ap (swp n a b) y = y := fun y m => by
    simp at m
    unfold swp; rw [ap_rmap m.1]; simp [swf, m.2]
  simp only [cons_append, nil_append, XP, xs1]
  have h1 : XP (gq (swp n a b)) ((range n).filter fun x => decide (x ∉ [a, b])) = false := XP_false fun x hx y hy => by
    unfold gq; rw [ey x hx, ey y hy]; simp
  have h2 : gq (swp n a b) a b = true := by
    unfold gq gtB; rw [ea, eb]
    rcases Nat.lt_or_gt_of_ne e with h | h <;> simp [h, Nat.lt_asymm h]
  have h3 : xs1 (gq (swp n a b) a) ((range n).filter fun x => decide (x ∉ [a, b])) = xs1 (gq (swp n a b) b) ((range n).filter fun x => decide (x ∉ [a, b])) := xs1_congr fun y m => by
    unfold gq; rw [ea, eb, ey y m]; exact Bool.xor_comm _ _
  rw [h1, h2, h3]; simp
/-! one round as a turn -/
def nxt (r : List Nat) (x : Nat) : Nat := if x ∈ r then r.getD ((r.idxOf x + 1) % r.length) 0 else x
def cyc (n : Nat) (r : List Nat) : List Nat := (range n).map (nxt r)
theorem nxt_at {r : List Nat} (hr : r.Nodup) {i : Nat} (h : i < r.length) : nxt r r[i] = r[(i + 1) % r.length]'(Nat.mod_lt _ (by omega)) := by
  unfold nxt
  rw [if_pos (getElem_mem _), hr.idxOf_getElem i h]
  simp [List.getD, Nat.mod_lt (i + 1) (show 0 < r.length by omega)]
theorem nxt_out {r : List Nat} {x : Nat} (h : x ∉ r) : nxt r x = x := by unfold nxt; rw [if_neg h]
theorem nxt_cons2 {a b : Nat} {l : List Nat} (h : (a :: b :: l).Nodup) (x : Nat) : nxt (a :: b :: l) x = swf a b (nxt (b :: l) x) := by
  have hab : a ∉ b :: l := (nodup_cons.mp h).1
  have h' : (b :: l).Nodup := (nodup_cons.mp h).2
  by_cases hx : x ∈ a :: b :: l
  · obtain ⟨i, hi, rfl⟩ := getElem_of_mem hx
    rw [nxt_at h hi]
    cases i with
    | zero =>
      simp only [getElem_cons_zero]
      rw [nxt_out hab]
      simp [swf]
    | succ i =>
      simp only [length_cons] at hi
      have hi' : i < (b :: l).length := by simp; omega
      simp only [getElem_cons_succ]
      rw [nxt_at h' hi']
      simp only [length_cons]
      by_cases hl : i = l.length
      · subst hl
        simp [swf]
        intro q; exact absurd q (by rintro rfl; simp at hab)
      · have e1 : (i + 1 + 1) % (l.length + 1 + 1) = i + 1 + 1 := Nat.mod_eq_of_lt (by omega)
        have e2 : (i + 1) % (l.length + 1) = i + 1 := Nat.mod_eq_of_lt (by omega)
        simp only [e1, e2, getElem_cons_succ]
        unfold swf
        have q1 : l[i]'(by omega) ≠ a := fun w => hab (w ▸ mem_cons_of_mem _ (getElem_mem _))
        have q2 : l[i]'(by omega) ≠ b := fun w => (nodup_cons.mp h').1 (w ▸ getElem_mem _)
        rw [if_neg q1, if_neg q2]
  · have hx1 : x ≠ a := fun w => hx (by simp [w])
    have hx2 : x ≠ b := fun w => hx (by simp [w])
    have hx3 : x ∉ b :: l := fun w => hx (mem_cons_of_mem _ w)
    rw [nxt_out hx, nxt_out hx3]; simp [swf, hx1, hx2]
theorem cyc_cons2 {n a b : Nat} {l : List Nat} (h : (a :: b :: l).Nodup) (hl : ∀ x ∈ a :: b :: l, x < n) (hT : IsT n (cyc n (b :: l))) : cyc n (a :: b :: l) = thn (cyc n (b :: l)) (swp n a b) := by
  refine ext_ap (n := n) (by simp [cyc]) (by rw [thn_len]; simp [cyc]) fun i hi => ?_
  rw [ap_thn (by simpa [cyc] using hi)]
  have e1 : ap (cyc n (a :: b :: l)) i = nxt (a :: b :: l) i := ap_rmap hi
  have e2 : ap (cyc n (b :: l)) i = nxt (b :: l) i := ap_rmap hi
  have q : nxt (b :: l) i < n := by rw [← e2]; exact hT.ap_lt hi
  have e3 : ap (swp n a b) (nxt (b :: l) i) = swf a b (nxt (b :: l) i) := ap_rmap q
  rw [e1, e2, e3, nxt_cons2 h]
theorem cyc_one (n a : Nat) : cyc n [a] = idt n := by
  unfold cyc idt
  rw [show nxt [a] = id from ?_, map_id]
  funext x; unfold nxt
  by_cases h : x ∈ [a]
  · simp at h; subst h; simp
  · rw [if_neg h]; rfl
def oddB (n : Nat) : Bool := decide (n % 2 = 1)
theorem oddB_add (a b : Nat) : oddB (a + b) = xor (oddB a) (oddB b) := by
  unfold oddB
  rcases Nat.mod_two_eq_zero_or_one a with h1 | h1 <;> rcases Nat.mod_two_eq_zero_or_one b with h2 | h2 <;> simp [h1, h2, Nat.add_mod]
theorem cyc_all {n : Nat} : ∀ {r : List Nat}, r ≠ [] → r.Nodup → (∀ x ∈ r, x < n) → IsT n (cyc n r) ∧ inv (cyc n r) = oddB (r.length - 1)
  | [], h, _, _ => absurd rfl h
  | [a], _, _, _ => by rw [cyc_one]; exact ⟨idt_T n, by rw [show inv (idt n) = false from XP_range n]; rfl⟩
  | a :: b :: l, _, h, hl => by
    obtain ⟨g1, g2⟩ := cyc_all (r := b :: l) (by simp) (nodup_cons.mp h).2 fun x m => hl x (mem_cons_of_mem _ m)
    have hs : IsT n (swp n a b) := swp_T (hl a (by simp)) (hl b (by simp))
    have e : a ≠ b := by rintro rfl; simp at h
    rw [cyc_cons2 h hl g1]
    refine ⟨g1.thn hs, ?_⟩
    rw [inv_thn g1 hs, g2, inv_swp (hl a (by simp)) (hl b (by simp)) e]
    rw [show (a :: b :: l).length - 1 = ((b :: l).length - 1) + 1 by simp, oddB_add]; rfl
end Mt

set_option Elab.async false
set_option linter.all false
/-! M3: orbits and rounds -/
namespace Mt
open List
def it (p : List Nat) : Nat → Nat → Nat
  | 0, a => a
  | k + 1, a => ap p (it p k a)
theorem it_add (p : List Nat) (j k a : Nat) : it p (j + k) a = it p j (it p k a) := by
  induction j with
  | zero => simp [it]
  | succ j ih => rw [show j + 1 + k = (j + k) + 1 by omega]; simp only [it, ih]
theorem IsT.it_lt {n : Nat} {p : List Nat} (h : IsT n p) {a : Nat} (ha : a < n) : ∀ k, it p k a < n
  | 0 => ha
  | k + 1 => h.ap_lt (h.it_lt ha k)
theorem IsT.it_inj {n : Nat} {p : List Nat} (h : IsT n p) {a b : Nat} (ha : a < n) (hb : b < n) : ∀ k, it p k a = it p k b → a = b
  | 0, e => e
  | k + 1, e => h.it_inj ha hb k (h.ap_inj (h.it_lt ha k) (h.it_lt hb k) e)
/-- how many times until a is back -/
def per (n : Nat) (p : List Nat) (a : Nat) : Nat := (range n).findIdx (fun k => decide (it p (k + 1) a = a)) + 1
theorem not_nodup {f : Nat → Nat} : ∀ {l : List Nat}, ¬ (l.map f).Nodup → l.Nodup → ∃ x ∈ l, ∃ y ∈ l, x ≠ y ∧ f x = f y := fun {l} h hn => by
  apply Classical.byContradiction
  intro q
  refine h (nodup_map_on hn fun x hx y hy e => ?_)
  apply Classical.byContradiction
  intro w; exact q ⟨x, hx, y, hy, w, e⟩
theorem IsT.per_ex {n : Nat} {p : List Nat} (h : IsT n p) {a : Nat} (ha : a < n) : ∃ k, k < n ∧ it p (k + 1) a = a := by
  have h1 : ¬ ((range (n + 1)).map fun k => it p k a).Nodup := fun q => by
    have := nodup_le q (n := n) (fun x m => by obtain ⟨k, _, rfl⟩ := mem_map.mp m; exact h.it_lt ha k)
    simp at this; omega
  obtain ⟨x, hx, y, hy, e, w⟩ := not_nodup h1 nodup_range
  simp only [mem_range] at hx hy
  have key : ∀ x y, x < y → y < n + 1 → it p x a = it p y a → ∃ k, k < n ∧ it p (k + 1) a = a := fun x y hxy hy w => by
    refine ⟨y - x - 1, by omega, ?_⟩
    rw [show y = x + (y - x - 1 + 1) by omega, it_add] at w
    exact (h.it_inj ha (h.it_lt ha _) x w).symm
  rcases Nat.lt_or_gt_of_ne e with q | q
  · exact key x y q hy w
  · exact key y x q hx w.symm
theorem IsT.per_ok {n : Nat} {p : List Nat} (h : IsT n p) {a : Nat} (ha : a < n) : 1 ≤ per n p a ∧ per n p a ≤ n ∧ it p (per n p a) a = a ∧ ∀ j, 0 < j → j < per n p a → it p j a ≠ a := by
  obtain ⟨k, hk, e⟩ := h.per_ex ha
  have q : (range n).findIdx (fun k => decide (it p (k + 1) a = a)) < (range n).length := findIdx_lt_length_of_exists ⟨k, by simpa using hk, by simpa using e⟩
  have q2 : (range n).findIdx (fun k => decide (it p (k + 1) a = a)) < n := by simpa using q
  refine ⟨by unfold per; omega, by unfold per; omega, ?_, fun j h0 hj => ?_⟩
  · have := findIdx_getElem (p := fun k => decide (it p (k + 1) a = a)) (xs := range n) (w := q)
    simpa [per] using this
  · unfold per at hj
    have := not_of_lt_findIdx (p := fun k => decide (it p (k + 1) a = a)) (xs := range n) (i := j - 1) (by omega)
    simp at this
    rwa [show j - 1 + 1 = j by omega] at this
def orb (n : Nat) (p : List Nat) (a : Nat) : List Nat := (range (per n p a)).map fun k => it p k a
theorem orb_len (n : Nat) (p : List Nat) (a : Nat) : (orb n p a).length = per n p a := by simp [orb]
theorem orb_at {n : Nat} {p : List Nat} {a k : Nat} (h : k < (orb n p a).length) : (orb n p a)[k] = it p k a := by simp [orb]
section
variable {n : Nat} {p : List Nat} (h : IsT n p) {a : Nat} (ha : a < n)
include h ha
theorem orb_nodup : (orb n p a).Nodup := by
  obtain ⟨h1, h2, h3, h4⟩ := h.per_ok ha
  refine nodup_map_on nodup_range fun x hx y hy e => ?_
  simp only [mem_range] at hx hy
  have key : ∀ x y, x < y → y < per n p a → it p x a = it p y a → False := fun x y hxy hy w => by
    rw [show y = x + (y - x) by omega, it_add] at w
    exact h4 (y - x) (by omega) (by omega) (h.it_inj ha (h.it_lt ha _) x w).symm
  rcases Nat.lt_trichotomy x y with q | q | q
  · exact (key x y q hy e).elim
  · exact q
  · exact (key y x q hx e.symm).elim
theorem orb_lt : ∀ x ∈ orb n p a, x < n := fun x m => by
  obtain ⟨k, _, rfl⟩ := mem_map.mp m; exact h.it_lt ha k
theorem orb_pos : 0 < (orb n p a).length := by rw [orb_len]; exact (h.per_ok ha).1
theorem orb_self : a ∈ orb n p a := mem_map.mpr ⟨0, by have := (h.per_ok ha).1; simp; omega, rfl⟩
theorem it_mod : ∀ k, it p (k % per n p a) a = it p k a := fun k => by
  obtain ⟨h1, h2, h3, h4⟩ := h.per_ok ha
  have : ∀ q r, it p (r + per n p a * q) a = it p r a := fun q => by
    induction q with
    | zero => intro r; simp
    | succ q ih => intro r; rw [show r + per n p a * (q + 1) = (r + per n p a * q) + per n p a by rw [Nat.mul_succ]; omega, it_add, h3, ih]
  conv => rhs; rw [← Nat.mod_add_div k (per n p a)]
  rw [this]
theorem orb_mod (k : Nat) : (orb n p a)[k % (orb n p a).length]'(Nat.mod_lt _ (orb_pos h ha)) = it p k a := by
  rw [orb_at]; rw [show k % (orb n p a).length = k % per n p a by rw [orb_len]]; exact it_mod h ha k
theorem mem_orb_it (k : Nat) : it p k a ∈ orb n p a := by rw [← orb_mod h ha k]; exact getElem_mem _
theorem orb_step {x : Nat} (hx : x ∈ orb n p a) (j : Nat) : (orb n p a).getD (((orb n p a).idxOf x + j) % (orb n p a).length) 0 = it p j x := by
  obtain ⟨i, hi, rfl⟩ := getElem_of_mem hx
  rw [(orb_nodup h ha).idxOf_getElem i hi]
  have q := Nat.mod_lt (i + j) (orb_pos h ha)
  rw [show (orb n p a).getD ((i + j) % (orb n p a).length) 0 = (orb n p a)[(i + j) % (orb n p a).length] by simp [List.getD, q]]
  rw [orb_mod h ha, orb_at, Nat.add_comm, it_add]
theorem orb_nxt {x : Nat} (hx : x ∈ orb n p a) : nxt (orb n p a) x = ap p x := by
  unfold nxt; rw [if_pos hx, orb_step h ha hx]; rfl
theorem orb_closed {x : Nat} (hx : x < n) : x ∈ orb n p a ↔ ap p x ∈ orb n p a := by
  constructor
  · intro m; obtain ⟨k, _, rfl⟩ := mem_map.mp m
    exact mem_orb_it h ha (k + 1)
  · intro m; obtain ⟨k, hk, e⟩ := mem_map.mp m
    have h1 := (h.per_ok ha).1
    have : it p k a = it p ((k + (per n p a - 1)) + 1) a := by
      rw [show k + (per n p a - 1) + 1 = k + per n p a by omega, it_add, (h.per_ok ha).2.2.1]
    rw [this] at e
    have e2 := h.ap_inj (h.it_lt ha _) hx e
    rw [← e2]; exact mem_orb_it h ha _
end
/-! rounds -/
def rdsF (n : Nat) (p : List Nat) : List Nat → List Nat → List (List Nat)
  | [], _ => []
  | a :: l, seen => if a ∈ seen then rdsF n p l seen else (if 1 < (orb n p a).length then [orb n p a] else []) ++ rdsF n p l (seen ++ orb n p a)
def rds (n : Nat) (p : List Nat) : List (List Nat) := rdsF n p (range n) []
def Clo (n : Nat) (p : List Nat) (S : List Nat) : Prop := ∀ x, x < n → (x ∈ S ↔ ap p x ∈ S)
theorem clo_it {n : Nat} {p S : List Nat} (h : IsT n p) (c : Clo n p S) {a : Nat} (ha : a < n) (q : a ∉ S) : ∀ k, it p k a ∉ S
  | 0 => q
  | k + 1 => fun m => clo_it h c ha q k ((c _ (h.it_lt ha k)).mpr m)
theorem clo_add {n : Nat} {p S : List Nat} (h : IsT n p) (c : Clo n p S) {a : Nat} (ha : a < n) : Clo n p (S ++ orb n p a) := fun x hx => by
  simp only [mem_append]; rw [c x hx, orb_closed h ha hx]
theorem rdsF_spec {n : Nat} {p : List Nat} (h : IsT n p) : ∀ (l S : List Nat), (∀ x ∈ l, x < n) → Clo n p S →
    (∀ r ∈ rdsF n p l S, (∃ a, a < n ∧ r = orb n p a) ∧ 1 < r.length ∧ ∀ x ∈ r, x ∉ S) ∧ (rdsF n p l S).flatten.Nodup ∧ ∀ x ∈ l, x ∈ S ∨ (∃ r ∈ rdsF n p l S, x ∈ r) ∨ ap p x = x
  | [], S, _, _ => ⟨by simp [rdsF], by simp [rdsF], by simp⟩
  | a :: l, S, hl, c => by
    have ha : a < n := hl a (by simp)
    have hl' : ∀ x ∈ l, x < n := fun x m => hl x (by simp [m])
    unfold rdsF
    by_cases q : a ∈ S
    · rw [if_pos q]
      obtain ⟨g1, g2, g3⟩ := rdsF_spec h l S hl' c
      refine ⟨g1, g2, fun x m => ?_⟩
      rcases mem_cons.mp m with rfl | m
      · exact .inl q
      · exact g3 x m
    · rw [if_neg q]
      obtain ⟨g1, g2, g3⟩ := rdsF_spec h l (S ++ orb n p a) hl' (clo_add h c ha)
      have dis : ∀ x ∈ orb n p a, x ∉ S := fun x m => by obtain ⟨k, _, rfl⟩ := mem_map.mp m; exact clo_it h c ha q k
      by_cases w : 1 < (orb n p a).length
      · rw [if_pos w]
        refine ⟨fun r m => ?_, ?_, fun x m => ?_⟩
        · rcases mem_append.mp m with m | m
          · simp at m; subst m; exact ⟨⟨a, ha, rfl⟩, w, dis⟩
          · obtain ⟨k1, k2, k3⟩ := g1 r m
            exact ⟨k1, k2, fun x mx hs => k3 x mx (mem_append.mpr (.inl hs))⟩
        · rw [flatten_append, nodup_append]
          refine ⟨by simpa using orb_nodup h ha, g2, ?_⟩
          rintro x mx y my rfl
          obtain ⟨r, mr, hr⟩ := mem_flatten.mp my
          simp at mx
          exact (g1 r mr).2.2 x hr (mem_append.mpr (.inr mx))
        · rcases mem_cons.mp m with rfl | m
          · exact .inr (.inl ⟨_, mem_append.mpr (.inl (by simp)), orb_self h ha⟩)
          · rcases g3 x m with k | k | k
            · rcases mem_append.mp k with k | k
              · exact .inl k
              · exact .inr (.inl ⟨_, mem_append.mpr (.inl (by simp)), k⟩)
            · obtain ⟨r, mr, hr⟩ := k
              exact .inr (.inl ⟨r, mem_append.mpr (.inr mr), hr⟩)
            · exact .inr (.inr k)
      · rw [if_neg w, nil_append]
        have hp := orb_pos h ha
        have w1 : (orb n p a).length = 1 := by omega
        have fx : ∀ x ∈ orb n p a, ap p x = x := fun x m => by
          have := orb_step h ha m 1
          rw [w1] at this
          obtain ⟨i, hi, rfl⟩ := getElem_of_mem m
          have i0 : i = 0 := by omega
          subst i0
          have e2 : (orb n p a).getD 0 0 = (orb n p a)[0] := by simp [List.getD, hi]
          simp only [Nat.mod_one] at this
          rw [e2] at this
          exact this.symm
        refine ⟨fun r m => ?_, g2, fun x m => ?_⟩
        · obtain ⟨k1, k2, k3⟩ := g1 r m
          exact ⟨k1, k2, fun x mx hs => k3 x mx (mem_append.mpr (.inl hs))⟩
        · rcases mem_cons.mp m with rfl | m
          · exact .inr (.inr (fx _ (orb_self h ha)))
          · rcases g3 x m with k | k | k
            · rcases mem_append.mp k with k | k
              · exact .inl k
              · exact .inr (.inr (fx x k))
            · exact .inr (.inl k)
            · exact .inr (.inr k)
structure Rds (n : Nat) (p : List Nat) (rs : List (List Nat)) : Prop where
  orb : ∀ r ∈ rs, ∃ a, a < n ∧ r = Mt.orb n p a
  two : ∀ r ∈ rs, 1 < r.length
  nd : rs.flatten.Nodup
  fix : ∀ x, x < n → (∃ r ∈ rs, x ∈ r) ∨ ap p x = x
theorem rds_ok {n : Nat} {p : List Nat} (h : IsT n p) : Rds n p (rds n p) := by
  obtain ⟨g1, g2, g3⟩ := rdsF_spec h (range n) [] (by simp) (by intro x _; simp)
  refine ⟨fun r m => (g1 r m).1, fun r m => (g1 r m).2.1, g2, fun x hx => ?_⟩
  rcases g3 x (by simpa using hx) with k | k | k
  · simp at k
  · exact .inl k
  · exact .inr k
/-- rounds as the law looks for them -/
def rdsW (n : Nat) (p : List Nat) : Nat → List Nat → List (List Nat)
  | 0, _ => []
  | _ + 1, [] => []
  | f + 1, a :: l => (if 1 < (orb n p a).length then [orb n p a] else []) ++ rdsW n p f (l.filter fun x => decide (x ∉ orb n p a))
theorem rdsW_eq {n : Nat} {p : List Nat} : ∀ (l S : List Nat) (f : Nat), l.length ≤ f → rdsF n p l S = rdsW n p f (l.filter fun x => decide (x ∉ S))
  | [], S, f, _ => by cases f <;> simp [rdsF, rdsW]
  | a :: l, S, 0, h => by simp at h
  | a :: l, S, f + 1, h => by
    simp only [length_cons] at h
    unfold rdsF
    by_cases q : a ∈ S
    · rw [if_pos q, rdsW_eq l S (f + 1) (by omega), filter_cons_of_neg (by simpa using q)]
    · rw [if_neg q, rdsW_eq l _ f (by omega), filter_cons_of_pos (by simpa using q)]
      simp only [rdsW]
      congr 2
      rw [filter_filter]
      congr 1; funext x; simp only [mem_append, not_or, Bool.decide_and]; exact Bool.and_comm _ _
theorem rdsW_all {n : Nat} {p : List Nat} : rdsW n p n (range n) = rds n p := by
  unfold rds; rw [rdsW_eq _ _ n (by simp)]; congr 1; symm; simp [filter_eq_self]
/-! all rounds, one behind the other -/
def prd (n : Nat) : List (List Nat) → List Nat
  | [] => idt n
  | r :: rs => thn (cyc n r) (prd n rs)
def spn : List (List Nat) → Nat
  | [] => 0
  | r :: rs => (r.length - 1) + spn rs
theorem prd_all {n : Nat} : ∀ {rs : List (List Nat)}, (∀ r ∈ rs, r ≠ []) → rs.flatten.Nodup → (∀ r ∈ rs, ∀ x ∈ r, x < n) →
    IsT n (prd n rs) ∧ inv (prd n rs) = oddB (spn rs) ∧ (∀ x, x < n → (∀ r ∈ rs, x ∉ r) → ap (prd n rs) x = x) ∧ ∀ r ∈ rs, ∀ x ∈ r, ap (prd n rs) x = nxt r x
  | [], _, _, _ => ⟨idt_T n, by rw [show inv (prd n []) = false from XP_range n]; rfl, fun x hx _ => ap_idt hx, by simp⟩
  | r :: rs, hne, nd, hl => by
    rw [flatten_cons, nodup_append] at nd
    obtain ⟨n1, n2, n3⟩ := nd
    obtain ⟨g1, g2, g3, g4⟩ := prd_all (rs := rs) (fun r m => hne r (by simp [m])) n2 (fun r m => hl r (by simp [m]))
    have hr : ∀ x ∈ r, x < n := hl r (by simp)
    obtain ⟨c1, c2⟩ := cyc_all (n := n) (hne r (by simp)) n1 hr
    have ec : ∀ x, x < n → ap (prd n (r :: rs)) x = ap (prd n rs) (nxt r x) := fun x hx => by
      show ap (thn (cyc n r) (prd n rs)) x = _
      rw [ap_thn (by rw [c1.len]; exact hx), show ap (cyc n r) x = nxt r x from ap_rmap hx]
    refine ⟨c1.thn g1, ?_, fun x hx hn => ?_, fun r' m x mx => ?_⟩
    · unfold prd spn; rw [inv_thn c1 g1, c2, g2, oddB_add]
    · rw [ec x hx, nxt_out (hn r (by simp)), g3 x hx fun r' m => hn r' (by simp [m])]
    · rcases mem_cons.mp m with rfl | m
      · rw [ec x (hr x mx)]
        have q : nxt r' x ∈ r' := by
          obtain ⟨i, hi, rfl⟩ := getElem_of_mem mx
          rw [nxt_at n1 hi]; exact getElem_mem _
        exact g3 _ (hr _ q) fun r2 m2 m3 => n3 _ q _ (mem_flatten.mpr ⟨r2, m2, m3⟩) rfl
      · have hx : x < n := hl r' (by simp [m]) x mx
        have q : x ∉ r := fun w => n3 x w x (mem_flatten.mpr ⟨r', m, mx⟩) rfl
        rw [ec x hx, nxt_out q]; exact g4 r' m x mx
theorem Rds.prd {n : Nat} {p : List Nat} (h : IsT n p) {rs : List (List Nat)} (q : Rds n p rs) : prd n rs = p ∧ inv p = oddB (spn rs) := by
  have hl : ∀ r ∈ rs, ∀ x ∈ r, x < n := fun r m => by obtain ⟨a, ha, rfl⟩ := q.orb r m; exact orb_lt h ha
  obtain ⟨g1, g2, g3, g4⟩ := prd_all (n := n) (rs := rs) (fun r m e => by have := q.two r m; rw [e] at this; simp at this) q.nd hl
  have : Mt.prd n rs = p := ext_ap g1.len h.len fun x hx => by
    by_cases w : ∃ r ∈ rs, x ∈ r
    · obtain ⟨r, m, mx⟩ := w
      rw [g4 r m x mx]
      obtain ⟨a, ha, rfl⟩ := q.orb r m
      exact orb_nxt h ha mx
    · rw [g3 x hx fun r m mx => w ⟨r, m, mx⟩]
      rcases q.fix x hx with k | k
      · exact absurd k w
      · exact k.symm
  exact ⟨this, by rw [← g2, this]⟩
end Mt

set_option Elab.async false
set_option linter.all false
/-! M4: orders, times, tables -/
namespace Mt
open List
def ordF : Nat → List (List Nat) → Nat
  | o, [] => o
  | o, r :: rs => ordF (o * r.length / Nat.gcd o r.length) rs
def ord (rs : List (List Nat)) : Nat := ordF 1 rs
theorem lcm_eq (o m : Nat) : o * m / Nat.gcd o m = Nat.lcm o m := rfl
theorem ordF_ok : ∀ (rs : List (List Nat)) (o : Nat), 0 < o → (∀ r ∈ rs, 1 < r.length) → 0 < ordF o rs ∧ o ∣ ordF o rs ∧ (∀ r ∈ rs, r.length ∣ ordF o rs) ∧ (ordF o rs) ^ 3 ≤ o ^ 3 * 3 ^ rs.flatten.length
  | [], o, h, _ => ⟨h, Nat.dvd_refl _, by simp, by simp [ordF]⟩
  | r :: rs, o, h, hr => by
    have h1 : 1 < r.length := hr r (by simp)
    have hp : 0 < o * r.length / Nat.gcd o r.length := by rw [lcm_eq]; exact Nat.lcm_pos h (by omega)
    obtain ⟨g1, g2, g3, g4⟩ := ordF_ok rs (o * r.length / Nat.gcd o r.length) hp fun r m => hr r (by simp [m])
    have e1 : o ∣ o * r.length / Nat.gcd o r.length := by rw [lcm_eq]; exact Nat.dvd_lcm_left _ _
    have e2 : r.length ∣ o * r.length / Nat.gcd o r.length := by rw [lcm_eq]; exact Nat.dvd_lcm_right _ _
    refine ⟨g1, Nat.dvd_trans e1 g2, fun r' m => ?_, ?_⟩
    · rcases mem_cons.mp m with rfl | m
      · exact Nat.dvd_trans e2 g2
      · exact g3 r' m
    · refine Nat.le_trans g4 ?_
      have l1 : o * r.length / Nat.gcd o r.length ≤ o * r.length := Nat.div_le_self _ _
      have l2 : (o * r.length / Nat.gcd o r.length) ^ 3 ≤ (o * r.length) ^ 3 := Nat.pow_le_pow_left l1 3
      have l3 : ∀ m : Nat, m ^ 3 ≤ 3 ^ m := fun m => by
        have base : ∀ d : Nat, (d + 3) ^ 3 ≤ 3 ^ (d + 3) := fun d => by
          induction d with
          | zero => decide
          | succ d ih =>
            have q : (d + 1 + 3) ^ 3 ≤ 3 * (d + 3) ^ 3 := by
              generalize e0 : d + 3 = k at *
              have hk : 3 ≤ k := by omega
              rw [show d + 1 + 3 = k + 1 by omega]
              have e : (k + 1) ^ 3 = k ^ 3 + 3 * k ^ 2 + 3 * k + 1 := by
                simp only [Nat.pow_succ, Nat.pow_zero, Nat.one_mul, Nat.add_mul, Nat.mul_add, Nat.mul_one]; omega
              have e2 : 3 * k ^ 2 ≤ k ^ 3 := by rw [Nat.pow_succ k 2, Nat.mul_comm]; exact Nat.mul_le_mul_left _ hk
              have e3 : 9 * k ≤ k ^ 3 := by
                have : k ^ 3 = (k * k) * k := by simp [Nat.pow_succ]
                rw [this]; exact Nat.mul_le_mul_right _ (Nat.mul_le_mul hk hk)
              omega
            rw [show d + 1 + 3 = (d + 3) + 1 by omega] at q ⊢
            rw [Nat.pow_succ 3 (d + 3)]; omega
        match m with
        | 0 => decide
        | 1 => decide
        | 2 => decide
        | m + 3 => exact base m
      rw [flatten_cons, length_append, Nat.pow_add, ← Nat.mul_assoc]
      refine Nat.mul_le_mul_right _ (Nat.le_trans l2 ?_)
      rw [Nat.mul_pow]
      exact Nat.mul_le_mul_left _ (l3 _)
theorem flat_le {n : Nat} {rs : List (List Nat)} (hn : rs.flatten.Nodup) (hl : ∀ r ∈ rs, ∀ x ∈ r, x < n) : rs.flatten.length ≤ n := nodup_le hn fun x m => by
  obtain ⟨r, mr, mx⟩ := mem_flatten.mp m; exact hl r mr x mx
theorem Rds.lt {n : Nat} {p : List Nat} (h : IsT n p) {rs : List (List Nat)} (q : Rds n p rs) : ∀ r ∈ rs, ∀ x ∈ r, x < n := fun r m => by obtain ⟨a, ha, rfl⟩ := q.orb r m; exact orb_lt h ha
theorem Rds.ord {n : Nat} {p : List Nat} (h : IsT n p) {rs : List (List Nat)} (q : Rds n p rs) (hn : n ≤ 24) : 0 < ord rs ∧ (∀ r ∈ rs, r.length ∣ ord rs) ∧ ord rs ≤ 6561 := by
  obtain ⟨g1, _, g3, g4⟩ := ordF_ok rs 1 (by omega) q.two
  refine ⟨g1, g3, ?_⟩
  have l := flat_le q.nd (q.lt h)
  have l2 : 3 ^ rs.flatten.length ≤ 3 ^ 24 := Nat.pow_le_pow_right (by omega) (by omega)
  have l3 : (Mt.ord rs) ^ 3 ≤ 3 ^ 24 := by
    refine Nat.le_trans g4 ?_
    simpa using l2
  apply Classical.byContradiction
  intro w
  have : 6562 ^ 3 ≤ (Mt.ord rs) ^ 3 := Nat.pow_le_pow_left (by unfold Mt.ord at w ⊢; omega) 3
  have c : ¬ (6562 ^ 3 ≤ 3 ^ 24) := by decide
  exact c (Nat.le_trans this l3)
/-! tables -/
def sh (k : Int) (r : List Nat) (x : Nat) : Nat := r.getD ((((r.idxOf x : Nat) : Int) + k) % ((r.length : Nat) : Int)).toNat 0
/-- what stands at x, once all of rs is written -/
def Tv (k : Int) (rs : List (List Nat)) (x y : Nat) : Prop := (∃ r ∈ rs, x ∈ r ∧ y = sh k r x) ∨ ((∀ r ∈ rs, x ∉ r) ∧ y = x)
theorem sh_it {n : Nat} {p : List Nat} (h : IsT n p) {a : Nat} (ha : a < n) {x : Nat} (hx : x ∈ orb n p a) {o : Nat} (ho : 0 < o) (hd : (orb n p a).length ∣ o) (k : Int) :
    sh k (orb n p a) x = it p (k % (o : Int)).toNat x := by
  rw [← orb_step h ha hx]
  unfold sh
  congr 1
  have hm : (((orb n p a).length : Nat) : Int) ∣ (o : Int) := Int.natCast_dvd_natCast.mpr hd
  have hk : 0 ≤ k % (o : Int) := Int.emod_nonneg _ (by omega)
  have e : (((orb n p a).idxOf x : Nat) : Int) + k = (((orb n p a).idxOf x : Nat) : Int) + k := rfl
  have e2 : ((((orb n p a).idxOf x : Nat) : Int) + k) % (((orb n p a).length : Nat) : Int) = ((((orb n p a).idxOf x : Nat) : Int) + k % (o : Int)) % (((orb n p a).length : Nat) : Int) := by
    rw [Int.add_emod, Int.add_emod _ (k % (o : Int)), Int.emod_emod_of_dvd _ hm]
  rw [e2]
  have e3 : (((orb n p a).idxOf x : Nat) : Int) + k % (o : Int) = (((orb n p a).idxOf x + (k % (o : Int)).toNat : Nat) : Int) := by
    rw [Int.natCast_add, Int.toNat_of_nonneg hk]
  rw [e3, ← Int.natCast_emod, Int.toNat_natCast]
theorem it_fix {p : List Nat} {x : Nat} (h : ap p x = x) : ∀ k, it p k x = x
  | 0 => rfl
  | k + 1 => by simp only [it]; rw [it_fix h k, h]
theorem Tv_it {n : Nat} {p : List Nat} (h : IsT n p) {rs : List (List Nat)} (q : Rds n p rs) {x y : Nat} (hx : x < n) {o : Nat} (ho : 0 < o) (hd : ∀ r ∈ rs, r.length ∣ o) {k : Int} (t : Tv k rs x y) : y = it p (k % (o : Int)).toNat x := by
  rcases t with ⟨r, m, mx, rfl⟩ | ⟨hn, rfl⟩
  · obtain ⟨a, ha, rfl⟩ := q.orb r m
    exact sh_it h ha mx ho (hd _ m) k
  · rcases q.fix y hx with ⟨r, m, mx⟩ | k
    · exact absurd mx (hn r m)
    · exact (it_fix k _).symm
theorem Tv_one {n : Nat} {p : List Nat} (h : IsT n p) {rs : List (List Nat)} (q : Rds n p rs) {x y : Nat} (hx : x < n) (t : Tv 1 rs x y) : y = ap p x := by
  rcases t with ⟨r, m, mx, rfl⟩ | ⟨hn, rfl⟩
  · obtain ⟨a, ha, rfl⟩ := q.orb r m
    have := orb_step h ha mx 1
    show _ = it p 1 x
    rw [← this]; unfold sh; congr 1
  · rcases q.fix y hx with ⟨r, m, mx⟩ | k
    · exact absurd mx (hn r m)
    · exact k.symm
/-- a table while one round is written -/
def In (k : Int) (r t0 : List Nat) (i : Nat) (t : List Nat) : Prop := t.length = t0.length ∧ ∀ x, x < t.length → ap t x = if x ∈ r.take i then sh k r x else ap t0 x
theorem In_zero (k : Int) (r t0 : List Nat) : In k r t0 0 t0 := ⟨rfl, fun x _ => by simp⟩
theorem ap_set {t : List Nat} {i v x : Nat} (h : x < t.length) : ap (t.set i v) x = if x = i then v else ap t x := by
  rw [ap_eq (by simpa using h), getElem_set, ap_eq h]
  by_cases e : x = i
  · simp [e]
  · simp [e, Ne.symm e]
theorem In_step {k : Int} {r t0 t : List Nat} {i x : Nat} (hr : r.Nodup) (h : In k r t0 i t) (e : r[i]? = some x) (hx : x < t0.length) : In k r t0 (i + 1) (t.set x (sh k r x)) := by
  obtain ⟨h1, h2⟩ := h
  refine ⟨by simpa using h1, fun y hy => ?_⟩
  simp only [length_set] at hy
  rw [ap_set hy, h2 y hy]
  have q : r.take (i + 1) = r.take i ++ [x] := by rw [take_add_one, e]; rfl
  rw [q]
  by_cases w : y = x
  · subst w; simp
  · simp [w]
theorem In_end {k : Int} {r t0 t : List Nat} (h : In k r t0 r.length t) : t.length = t0.length ∧ ∀ x, x < t.length → ap t x = if x ∈ r then sh k r x else ap t0 x := by
  obtain ⟨h1, h2⟩ := h
  exact ⟨h1, fun x hx => by rw [h2 x hx, take_length]⟩
def Out (n : Nat) (k : Int) (rs : List (List Nat)) (j : Nat) (t : List Nat) : Prop := t.length = n ∧ ∀ x, x < n → Tv k (rs.take j) x (ap t x)
theorem Out_zero (n : Nat) (k : Int) (rs : List (List Nat)) : Out n k rs 0 (idt n) := ⟨by simp [idt], fun x hx => .inr ⟨by simp, ap_idt hx⟩⟩
theorem Out_step {n : Nat} {k : Int} {rs : List (List Nat)} {j : Nat} {r t0 t : List Nat} (hn : rs.flatten.Nodup) (h : Out n k rs j t0) (e : rs[j]? = some r) (q : In k r t0 r.length t) : Out n k rs (j + 1) t := by
  obtain ⟨h1, h2⟩ := h
  obtain ⟨q1, q2⟩ := In_end q
  refine ⟨by rw [q1, h1], fun x hx => ?_⟩
  have et : rs.take (j + 1) = rs.take j ++ [r] := by rw [take_add_one, e]; rfl
  rw [et, q2 x (by rw [q1, h1]; exact hx)]
  by_cases w : x ∈ r
  · rw [if_pos w]; exact .inl ⟨r, by simp, w, rfl⟩
  · rw [if_neg w]
    rcases h2 x hx with ⟨r', m, mx, e'⟩ | ⟨m, e'⟩
    · exact .inl ⟨r', by simp [m], mx, e'⟩
    · refine .inr ⟨fun r' m' => ?_, e'⟩
      rcases mem_append.mp m' with m' | m'
      · exact m r' m'
      · simp at m'; subst m'; exact w
theorem Out_end {n : Nat} {k : Int} {rs : List (List Nat)} {t : List Nat} (h : Out n k rs rs.length t) : t.length = n ∧ ∀ x, x < n → Tv k rs x (ap t x) := by
  obtain ⟨h1, h2⟩ := h
  exact ⟨h1, fun x hx => by have := h2 x hx; rwa [take_length] at this⟩
/-- so many times -/
def tms (n : Nat) (p : List Nat) (k : Nat) : List Nat := (range n).map (it p k)
theorem tms_T {n : Nat} {p : List Nat} (h : IsT n p) (k : Nat) : IsT n (tms n p k) := rmap_T (fun x hx => h.it_lt hx k) fun x y hx hy e => h.it_inj hx hy k e
theorem Out_tms {n : Nat} {p : List Nat} (h : IsT n p) {rs : List (List Nat)} (q : Rds n p rs) {o : Nat} (ho : 0 < o) (hd : ∀ r ∈ rs, r.length ∣ o) {k : Int} {t : List Nat} (w : Out n k rs rs.length t) : t = tms n p (k % (o : Int)).toNat := by
  obtain ⟨h1, h2⟩ := Out_end w
  refine ext_ap h1 (by simp [tms]) fun x hx => ?_
  rw [Tv_it h q hx ho hd (h2 x hx)]; exact (ap_rmap hx).symm
theorem Out_one {n : Nat} {p : List Nat} (h : IsT n p) {rs : List (List Nat)} (q : Rds n p rs) {t : List Nat} (w : Out n 1 rs rs.length t) : t = p := by
  obtain ⟨h1, h2⟩ := Out_end w
  exact ext_ap h1 h.len fun x hx => Tv_one h q hx (h2 x hx)
end Mt

set_option Elab.async false
set_option linter.all false
set_option maxRecDepth 100000
set_option maxHeartbeats 4000000
/-! N2: lists of small numbers as data -/
namespace Yv
open PySem L2
def nI (l : List Nat) : List D := l.map fun (x : Nat) => D.int (x : Int)
abbrev TN (l : List Nat) : D := .tup (nI l)
abbrev LS (o : Bool) (l : List Nat) : D := .lst o (nI l)
theorem nI_len (l : List Nat) : (nI l).length = l.length := by simp [nI]
theorem nI_pure (l : List Nat) : D.pureL (nI l) = true := pureL_map _ _ fun _ _ => rfl
theorem nI_append (a b : List Nat) : nI (a ++ b) = nI a ++ nI b := by simp [nI]
theorem nI_at {l : List Nat} {i : Nat} (h : i < l.length) : (nI l)[i]? = some (.int (l[i] : Nat)) := by simp [nI, h]
theorem nI_frz (l : List Nat) : D.frzL (nI l) = nI l := frzL_of_pure (nI_pure l)
theorem TP_pure (l : List Nat) : (TN l).pure = true := nI_pure l
theorem nI_nil : nI [] = [] := rfl
theorem nI_cons (a : Nat) (l : List Nat) : nI (a :: l) = D.int a :: nI l := rfl
theorem atI_nat {α : Type} {l : List α} {i : Nat} (h : i < l.length) : atI l (i : Int) = l[i]? := by
  unfold atI ixN; rw [if_pos (by omega), if_pos (by omega)]; simp
theorem pIx_T {l : List Nat} {i : Nat} (h : i < l.length) : pIx (TN l) (.int (i : Int)) = some (.int (Mt.ap l i : Nat)) := by
  show pureO (atI (nI l) (i : Int)) = _
  rw [atI_nat (by rw [nI_len]; exact h), nI_at h, Mt.ap_eq h]; rfl
theorem pIx_L {o : Bool} {l : List Nat} {i : Nat} (h : i < l.length) : pIx (LS o l) (.int (i : Int)) = some (.int (Mt.ap l i : Nat)) := by
  show pureO (atI (nI l) (i : Int)) = _
  rw [atI_nat (by rw [nI_len]; exact h), nI_at h, Mt.ap_eq h]; rfl
theorem atI_last {α : Type} {l : List α} (h : l ≠ []) : atI l (-1) = l[l.length - 1]? := by
  have : 0 < l.length := List.length_pos_iff.mpr h
  unfold atI ixN; rw [if_neg (by omega), if_pos (by omega)]
  simp only [Option.bind_some]
  congr 1; omega
theorem pIx_last {o : Bool} {l : List Nat} (h : l ≠ []) : pIx (LS o l) (.int (-1)) = some (.int (Mt.ap l (l.length - 1) : Nat)) := by
  have hp : 0 < l.length := List.length_pos_iff.mpr h
  have hq : l.length - 1 < l.length := by omega
  have hn : nI l ≠ [] := fun e => by have := congrArg List.length e; rw [nI_len] at this; exact h (by simpa using this)
  show pureO (atI (nI l) (-1)) = _
  rw [atI_last hn, nI_len, nI_at hq, Mt.ap_eq hq]; rfl
theorem pSet_L {l : List Nat} {i v : Nat} (h : i < l.length) : pSet (LS true l) (.int (i : Int)) (.int (v : Int)) = some (LS true (l.set i v)) := by
  show (if D.pureL (nI l) && (D.int (v : Int)).pure then (ixN (nI l).length (i : Int)).map fun j => D.lst true ((nI l).set j (.int (v : Int))) else none) = _
  rw [nI_pure, show ixN (nI l).length (i : Int) = some i by unfold ixN; rw [nI_len, if_pos (by omega), if_pos (by omega)]; simp]
  simp [nI, List.map_set, D.pure]
theorem pLen_T (l : List Nat) : pLen [TN l] = some (.int (l.length : Nat)) := by simp [pLen, lenD, nI_len]
theorem pLen_L (o : Bool) (l : List Nat) : pLen [LS o l] = some (.int (l.length : Nat)) := by simp [pLen, lenD, nI_len]
theorem dat_nI {l : List Nat} (n : Nat) (h : ∀ x ∈ l, x < 10 ^ 9) : DatL (nI l) (l.map fun (x : Nat) => .int (x : Int)) n (l.length * 12) := datL_all l fun x m => dat_int n (by simpa using h x m)
abbrev PT (l : List Nat) : PyData := .tuple (l.map fun (x : Nat) => .int (x : Int))
theorem dat_T {l : List Nat} (n : Nat) (h : ∀ x ∈ l, x < 10 ^ 9) : Dat (TN l) (PT l) (n + 1) (l.length * 12 + 3) := dat_tup (dat_nI n h)
theorem eqv_nat (a b : Nat) : PyData.eqv (.int (a : Int)) (.int (b : Int)) = decide (a = b) := by
  simp only [PyData.eqv]
  by_cases e : a = b
  · subst e; simp
  · have : ¬ ((a : Int) = (b : Int)) := by omega
    simp [e]; omega
theorem eqvAll_nat : ∀ (a b : List Nat), PyData.eqvAll (a.map fun (x : Nat) => .int (x : Int)) (b.map fun (x : Nat) => .int (x : Int)) = decide (a = b)
  | [], [] => by simp [PyData.eqvAll]
  | [], y :: b => by simp [PyData.eqvAll]
  | x :: a, [] => by simp [PyData.eqvAll]
  | x :: a, y :: b => by
    simp only [List.map_cons, PyData.eqvAll, eqvAll_nat a b, eqv_nat, List.cons.injEq, Bool.decide_and]
theorem eqv_T (a b : List Nat) : PyData.eqv (PT a) (PT b) = decide (a = b) := by
  simp only [PyData.eqv]; exact eqvAll_nat a b
theorem pNe_T {a b : List Nat} (ha : ∀ x ∈ a, x < 10 ^ 9) (hb : ∀ x ∈ b, x < 10 ^ 9) : pNe (TN a) (TN b) = some (.bl !decide (a = b)) := by
  rw [(dat_T 0 ha).ne (dat_T 0 hb) (by omega) (by omega), eqv_T]
theorem dat_LS {o : Bool} {l : List Nat} (h : ∀ x ∈ l, x < 10 ^ 9) : (LS o l).py = some (.list (l.map fun (x : Nat) => .int (x : Int))) ∧ SeqAt.shaped (.list (l.map fun (x : Nat) => .int (x : Int))) = true := by
  have d := dat_nI (l := l) 0 h
  refine ⟨by simp only [D.py, d.py]; rfl, ?_⟩
  unfold SeqAt.shaped
  simp only [PyData.canLay0, d.lay, PyData.depth]
  have := d.dep; simp; omega
theorem pEq_L {o o' : Bool} {a b : List Nat} (ha : ∀ x ∈ a, x < 10 ^ 9) (hb : ∀ x ∈ b, x < 10 ^ 9) : pEq (LS o a) (LS o' b) = some (.bl (decide (a = b))) := by
  unfold pEq peq
  rw [(dat_LS ha).1, (dat_LS hb).1]
  have e1 := (dat_LS (o := o) ha).2
  have e2 := (dat_LS (o := o') hb).2
  simp only [e1, e2, Bool.and_self, if_true, PyData.eqv, eqvAll_nat, Option.map_some]
theorem pNe_L {o o' : Bool} {a b : List Nat} (ha : ∀ x ∈ a, x < 10 ^ 9) (hb : ∀ x ∈ b, x < 10 ^ 9) : pNe (LS o a) (LS o' b) = some (.bl !decide (a = b)) := by
  unfold pNe peq
  rw [(dat_LS ha).1, (dat_LS hb).1]
  have e1 := (dat_LS (o := o) ha).2
  have e2 := (dat_LS (o := o') hb).2
  simp only [e1, e2, Bool.and_self, if_true, PyData.eqv, eqvAll_nat, Option.map_some]
theorem shaped_int (i : Int) : SeqAt.shaped (.int i) = true := rfl
theorem pEq_I (a b : Int) : pEq (.int a) (.int b) = some (.bl (decide (a = b))) := by
  unfold pEq peq
  simp only [D.py, shaped_int, Bool.and_self, if_true, PyData.eqv, Option.map_some, Option.some.injEq, D.bl.injEq]
  by_cases e : a = b <;> simp [e]
theorem pNe_I (a b : Int) : pNe (.int a) (.int b) = some (.bl !decide (a = b)) := by
  unfold pNe peq
  simp only [D.py, shaped_int, Bool.and_self, if_true, PyData.eqv, Option.map_some, Option.some.injEq, D.bl.injEq]
  by_cases e : a = b <;> simp [e]
theorem pNe_N (a b : Nat) : pNe (.int (a : Int)) (.int (b : Int)) = some (.bl !decide (a = b)) := by
  rw [pNe_I]
  by_cases e : a = b
  · subst e; simp
  · have : ¬ ((a : Int) = (b : Int)) := by omega
    simp [e]; omega
theorem any_nat (l : List Nat) (x : Nat) : ((l.map fun (y : Nat) => PyData.int (y : Int)).any fun z => PyData.eqv z (.int (x : Int))) = decide (x ∈ l) := by
  induction l with
  | nil => simp
  | cons y l ih =>
    simp only [List.map_cons, List.any_cons, ih, eqv_nat, List.mem_cons, Bool.decide_or]
    by_cases e : y = x
    · subst e; simp
    · have : ¬ x = y := Ne.symm e
      simp [e, this]
theorem pNotIn_L {o : Bool} {l : List Nat} {x : Nat} (h : ∀ y ∈ l, y < 10 ^ 9) : pNotIn (.int (x : Int)) (LS o l) = some (.bl !decide (x ∈ l)) := by
  have q : pIn0 (.int (x : Int)) (LS o l) = some (decide (x ∈ l)) := by
    show pInSeq (.int (x : Int)) (LS o l) = _
    unfold pInSeq
    rw [(dat_LS h).1]
    have e1 := (dat_LS (o := o) h).2
    simp only [D.py, shaped_int, e1, Bool.and_self, if_true, any_nat]
  unfold pNotIn; rw [q]; rfl
theorem intsD_eq (n : Nat) : intsD 0 n = nI (List.range n) := by simp [intsD, nI]
theorem intsOf_nI (l : List Nat) : intsOf (nI l) = some (l.map fun (x : Nat) => (x : Int)) := by
  unfold nI; rw [show (l.map fun (x : Nat) => D.int (x : Int)) = (l.map fun (x : Nat) => (x : Int)).map D.int by simp]; exact intsOf_map _
theorem nI_mem {l : List Nat} {d : D} (h : d ∈ nI l) : ∃ x ∈ l, d = .int (x : Int) := by
  obtain ⟨x, m, rfl⟩ := List.mem_map.mp h; exact ⟨x, m, rfl⟩
end Yv

set_option Elab.async false
set_option linter.all false
set_option maxRecDepth 100000
set_option maxHeartbeats 4000000
/-! N3: dicts as sets of numbers -/
namespace Yv
open PySem L2
abbrev kN (x : Nat) : Ky := .inl (.inl (x : Int))
def hasK (kvs : List (Ky × D)) (k : Ky) : Bool := kvs.any fun p => decide (p.1 = k)
theorem valD_has (kvs : List (Ky × D)) (k : Ky) : (valD kvs k).isSome = hasK kvs k := by
  unfold valD hasK
  rw [Option.isSome_map]
  induction kvs with
  | nil => rfl
  | cons p kvs ih =>
    rw [List.find?_cons, List.any_cons]
    cases decide (p.1 = k) with
    | true => simp
    | false => simpa using ih
theorem hasK_put (kvs : List (Ky × D)) (k k' : Ky) (v : D) : hasK (putY kvs k v) k' = (decide (k = k') || hasK kvs k') := by
  unfold putY
  split
  · rename_i h
    have e : hasK (kvs.map fun p => if p.1 = k then (p.1, v) else p) k' = hasK kvs k' := by
      unfold hasK; rw [List.any_map]; congr 1; funext p; simp only [Function.comp]; split <;> rfl
    rw [e]
    by_cases c : k = k'
    · subst c; simpa [hasK] using h
    · simp [c]
  · unfold hasK; simp [Bool.or_comm]
theorem hasK_merge (k' : Ky) : ∀ (more kvs : List (Ky × D)), hasK (mergeY kvs more) k' = (hasK kvs k' || hasK more k')
  | [], kvs => by simp [mergeY, hasK]
  | p :: more, kvs => by
    show hasK (mergeY (putY kvs p.1 p.2) more) k' = _
    rw [hasK_merge k' more, hasK_put]
    simp only [hasK, List.any_cons]
    cases decide (p.1 = k') <;> cases (kvs.any fun p => decide (p.1 = k')) <;> simp
theorem put_len (kvs : List (Ky × D)) (k : Ky) (v : D) : (putY kvs k v).length ≤ kvs.length + 1 := by
  unfold putY; split <;> simp
theorem merge_len : ∀ (more kvs : List (Ky × D)), (mergeY kvs more).length ≤ kvs.length + more.length
  | [], kvs => by simp [mergeY]
  | p :: more, kvs => by
    show (mergeY (putY kvs p.1 p.2) more).length ≤ _
    have := merge_len more (putY kvs p.1 p.2)
    have := put_len kvs p.1 p.2
    simp only [List.length_cons]; omega
/-- of plain keys and values -/
def Good (kvs : List (Ky × D)) : Prop := simpleKs kvs = true ∧ D.pureK kvs = true
theorem good_put {kvs : List (Ky × D)} {k : Key} {v : D} (h : Good kvs) (hv : v.pure = true) : Good (putY kvs (.inl k) v) := by
  obtain ⟨h1, h2⟩ := h
  unfold putY
  split
  · refine ⟨?_, pureK_iff.mpr fun d m => ?_⟩
    · unfold simpleKs at *
      rw [List.all_map]; rw [List.all_eq_true] at *
      intro p m; have := h1 p m
      by_cases c : p.1 = Sum.inl k
      · simp [Function.comp, c]
      · simpa [Function.comp, c] using this
    · obtain ⟨p, mp, rfl⟩ := List.mem_map.mp m
      split
      · exact hv
      · exact pureK_iff.mp h2 p mp
  · refine ⟨?_, pureK_iff.mpr fun d m => ?_⟩
    · unfold simpleKs at *; simp [h1]
    · rcases List.mem_append.mp m with m | m
      · exact pureK_iff.mp h2 d m
      · simp at m; subst m; exact hv
theorem good_merge : ∀ (more kvs : List (Ky × D)), Good kvs → Good more → Good (mergeY kvs more)
  | [], kvs, h, _ => h
  | (.inl k, v) :: more, kvs, h, g => by
    show Good (mergeY (putY kvs (.inl k) v) more)
    have g1 : simpleKs more = true ∧ D.pureK more = true ∧ v.pure = true := by
      obtain ⟨a, b⟩ := g
      refine ⟨by simpa [simpleKs] using a, ?_, ?_⟩
      · simp only [D.pureK, Bool.and_eq_true] at b; exact b.2
      · simp only [D.pureK, Bool.and_eq_true] at b; exact b.1
    exact good_merge more _ (good_put h g1.2.2) ⟨g1.1, g1.2.1⟩
  | (.inr k, v) :: more, kvs, h, g => by
    obtain ⟨a, b⟩ := g
    simp [simpleKs] at a
def setK (l : List Nat) : List (Ky × D) := l.map fun (x : Nat) => (kN x, D.bl true)
theorem good_setK (l : List Nat) : Good (setK l) := by
  refine ⟨?_, pureK_iff.mpr fun d m => ?_⟩
  · unfold simpleKs setK; rw [List.all_map]; simp [Function.comp]
  · obtain ⟨x, _, rfl⟩ := List.mem_map.mp m; rfl
theorem hasK_setK (l : List Nat) (x : Nat) : hasK (setK l) (kN x) = decide (x ∈ l) := by
  induction l with
  | nil => rfl
  | cons y l ih =>
    show (decide (kN y = kN x) || hasK (setK l) (kN x)) = _
    rw [ih]
    have : (kN y = kN x) ↔ x = y := by
      constructor
      · intro e; simp [kN] at e; omega
      · rintro rfl; rfl
    simp [this, List.mem_cons]
/-- what is seen -/
structure Seen (kvs : List (Ky × D)) (S : List Nat) (m : Nat) : Prop where
  good : Good kvs
  len : kvs.length ≤ m
  has : ∀ x : Nat, hasK kvs (kN x) = decide (x ∈ S)
theorem seen_nil : Seen [] [] 0 := ⟨⟨rfl, rfl⟩, Nat.le_refl _, fun x => rfl⟩
theorem seen_in {kvs : List (Ky × D)} {S : List Nat} {m : Nat} (h : Seen kvs S m) (o : Bool) (x : Nat) : pNotIn (.int (x : Int)) (.dct o kvs) = some (.bl !decide (x ∈ S)) := by
  have e : pInD (.int (x : Int)) kvs = some (decide (x ∈ S)) := by
    show (if kindOk kvs (kN x) then some (valD kvs (kN x)).isSome else none) = _
    rw [show kindOk kvs (kN x) = true from h.good.1, valD_has, h.has]; rfl
  unfold pNotIn
  rw [show pIn0 (.int (x : Int)) (.dct o kvs) = pInD (.int (x : Int)) kvs from rfl, e]; rfl
theorem pairs_set : ∀ (l : List Nat), pairsD (l.map fun (x : Nat) => D.tup [.int (x : Int), .bl true]) = some (setK l)
  | [] => rfl
  | x :: l => by
    simp only [List.map_cons, pairsD, pairs_set l, keyOf]; rfl
theorem dict_set (o : Bool) (l : List Nat) : pDictOf [.lst o (l.map fun (x : Nat) => D.tup [.int (x : Int), .bl true])] = some (.dct true (mergeY [] (setK l))) := by
  have hp : D.pureL (l.map fun (x : Nat) => D.tup [.int (x : Int), .bl true]) = true := pureL_map _ _ fun _ _ => rfl
  simp only [pDictOf, itL, hp, if_true, pairs_set, Option.map_some]
theorem seen_up {kvs : List (Ky × D)} {S T : List Nat} {m : Nat} (h : Seen kvs S m) (l : List Nat) (hl : m + l.length ≤ 1000000) (hT : ∀ x, x ∈ T ↔ x ∈ S ∨ x ∈ l) :
    ∃ kvs', pUpdate (.dct true kvs) [.dct false (mergeY [] (setK l))] = some (some (.dct true kvs'), .non) ∧ Seen kvs' T (m + l.length) := by
  have g0 : Good (mergeY [] (setK l)) := good_merge _ _ ⟨rfl, rfl⟩ (good_setK l)
  have l0 : (mergeY [] (setK l)).length ≤ l.length := by have := merge_len (setK l) []; simpa [setK] using this
  refine ⟨mergeY kvs (mergeY [] (setK l)), ?_, good_merge _ _ h.good g0, ?_, fun x => ?_⟩
  · have e : (D.pureK kvs && D.pureK (mergeY [] (setK l)) && simpleKs kvs && simpleKs (mergeY [] (setK l)) && Yv.sizeOk (kvs.length + (mergeY [] (setK l)).length)) = true := by
      rw [h.good.1, h.good.2, g0.1, g0.2]
      have := h.len
      simp only [Bool.and_self, Bool.true_and, Yv.sizeOk, decide_eq_true_eq]; omega
    simp only [pUpdate]; rw [if_pos e]
  · have := merge_len (mergeY [] (setK l)) kvs; have := h.len; omega
  · rw [hasK_merge, hasK_merge, h.has, hasK_setK]
    have : hasK ([] : List (Ky × D)) (kN x) = false := rfl
    rw [this]
    by_cases a : x ∈ S <;> by_cases b : x ∈ l <;> simp [hT, a, b]
end Yv

set_option Elab.async false
set_option linter.all false
set_option maxRecDepth 100000
set_option maxHeartbeats 4000000
namespace Lw
open PySem L2 Yv
def isI : Yv.D → Bool
  | .int _ => true
  | _ => false
/-- neither the script nor a class -/
def noS : Yv.D → Bool
  | .scr _ => false
  | .ty _ => false
  | .ptu _ => false
  | _ => true
theorem t_is_integer (k : Nat) (d : Yv.D) (h : noS d = true) : fm_is_integer (k + 1) [d] = .ok (.bl (isI d)) [d] := by
  rw [f_is_integer]
  cases d <;> first | (simp [noS] at h; done) | kernel_rfl
theorem t__law_is_int (k : Nat) (d : Yv.D) (h : noS d = true) : fm__law_is_int (k + 1) [d] = .ok (.bl (isI d)) [d] := by
  rw [f__law_is_int]
  cases d <;> first | (simp [noS] at h; done) | kernel_rfl
def inR (lo hi : Int) : Yv.D → Bool
  | .int v => decide (lo ≤ v) && decide (v ≤ hi)
  | _ => false
theorem t_is_between (k : Nat) (d : Yv.D) (lo hi : Int) (h : noS d = true) (hp : d.pure = true) : fm_is_between (k + 2) [d, .int lo, .int hi] = .ok (.bl (inR lo hi d)) [d, .int lo, .int hi] := by
  rw [f_is_between]
  by_cases hi' : isI d = true
  · cases d with
    | int v =>
      have := t_is_integer k (.int v) rfl
      simp only [isI] at this
      by_cases h1 : lo ≤ v
      · simp [callM, somes, pureOut, finP, CR.nox, mSs, mSeq, mPass, mRetM, mRetN, mMove, mDo, mAsg, mIfS, mFor, mPar, allDt, mAndV, mOrV, mNotV, mBl, mTru, mAnd, mOr, mNot, mIf, mOp1, mOp2, mOpL, mL, mNil, mCons, mVar, mC, mCh, mVal, valA, mFz, mDt, mTup, mLst, mDct0, mCall, mPerm, permA, lentSlots_pure, back_pure, lentSlots_nil, lentSlots_dt, lentSlots_nm, lentAt_nil, lentAt_dt, lentAt_nm, mSl, mPart, mPart0, mItV, mItR1, mItR2, mItE, mMe, mMeEnd, mSto, resA, resAs, ofO, tgt, tgtL, D.frz, D.pure, D.pureL, D.frzL, mFail, mFailS, truD, List.replicate_succ, fLt, fLe, fGt, fGe, b_is_between, d_is_between, this, pOrd, h1, inR]
      · simp [callM, somes, pureOut, finP, CR.nox, mSs, mSeq, mPass, mRetM, mRetN, mMove, mDo, mAsg, mIfS, mFor, mPar, allDt, mAndV, mOrV, mNotV, mBl, mTru, mAnd, mOr, mNot, mIf, mOp1, mOp2, mOpL, mL, mNil, mCons, mVar, mC, mCh, mVal, valA, mFz, mDt, mTup, mLst, mDct0, mCall, mPerm, permA, lentSlots_pure, back_pure, lentSlots_nil, lentSlots_dt, lentSlots_nm, lentAt_nil, lentAt_dt, lentAt_nm, mSl, mPart, mPart0, mItV, mItR1, mItR2, mItE, mMe, mMeEnd, mSto, resA, resAs, ofO, tgt, tgtL, D.frz, D.pure, D.pureL, D.frzL, mFail, mFailS, truD, List.replicate_succ, fLt, fLe, fGt, fGe, b_is_between, d_is_between, this, pOrd, h1, inR]
    | _ => simp [isI] at hi'
  · have e : inR lo hi d = false := by cases d <;> first | rfl | simp [isI] at hi'
    have e0 := t_is_integer k d h
    rw [Bool.not_eq_true] at hi'
    rw [hi'] at e0
    simp [callM, somes, pureOut, finP, CR.nox, mSs, mSeq, mPass, mRetM, mRetN, mMove, mDo, mAsg, mIfS, mFor, mPar, allDt, mAndV, mOrV, mNotV, mBl, mTru, mAnd, mOr, mNot, mIf, mOp1, mOp2, mOpL, mL, mNil, mCons, mVar, mC, mCh, mVal, valA, mFz, mDt, mTup, mLst, mDct0, mCall, mPerm, permA, lentSlots_pure, back_pure, lentSlots_nil, lentSlots_dt, lentSlots_nm, lentAt_nil, lentAt_dt, lentAt_nm, mSl, mPart, mPart0, mItV, mItR1, mItR2, mItE, mMe, mMeEnd, mSto, resA, resAs, ofO, tgt, tgtL, D.frz, D.pure, D.pureL, D.frzL, mFail, mFailS, truD, List.replicate_succ, fLt, fLe, fGt, fGe, b_is_between, d_is_between, e0, e, hp]
theorem pureL_mem {ds : List Yv.D} (h : D.pureL ds = true) {d : Yv.D} (m : d ∈ ds) : d.pure = true := pureL_iff.mp h d m
theorem allB (ds : List Yv.D) (f : Yv.D → Bool) : lB fAll [.lst true (ds.map fun d => .bl (f d))] = some (.bl (ds.all f)) := by
  have e : (ds.map fun d => Yv.D.bl (f d)) = (ds.map f).map Yv.D.bl := by simp
  unfold lB itL
  rw [e]
  simp only [pureL_bls, if_true, blsOf_map, fAll, List.all_map, Option.map_some]
  rfl
theorem isi_tuple (ds : List Yv.D) : pIsi [.tup ds, .ty "tuple"] = some (.bl true) := rfl
theorem t_are_between (k : Nat) (ds : List Yv.D) (lo hi : Int) (h : ∀ d ∈ ds, noS d = true) (hp : D.pureL ds = true) (hl : ds.length ≤ 1000000) :
    fm_are_between (k + 3) [.tup ds, .int lo, .int hi] = .ok (.bl (ds.all (inR lo hi))) [.tup ds, .int lo, .int hi] := by
  rw [f_are_between]
  have lc := lc_map (mi := mItV (mVar 0)) (t := .nm 3) (tt := mYes) (te := mCall (fm_is_between (k + 2)) (mL [mVar 3, mVar 1, mVar 2])) (vs := [3]) (δ := [some (.tup ds), some (.int lo), some (.int hi), none]) (δ1 := [some (.tup ds), some (.int lo), some (.int hi), none]) (ds := ds)
    (fun d => .bl (inR lo hi d)) (by simp [callM, somes, pureOut, finP, CR.nox, mSs, mSeq, mPass, mRetM, mRetN, mMove, mDo, mAsg, mIfS, mFor, mPar, allDt, mAndV, mOrV, mNotV, mBl, mTru, mAnd, mOr, mNot, mIf, mOp1, mOp2, mOpL, mL, mNil, mCons, mVar, mC, mCh, mVal, valA, mFz, mDt, mTup, mLst, mDct0, mCall, mPerm, permA, lentSlots_pure, back_pure, lentSlots_nil, lentSlots_dt, lentSlots_nm, lentAt_nil, lentAt_dt, lentAt_nm, mSl, mPart, mPart0, mItV, mItR1, mItR2, mItE, mMe, mMeEnd, mSto, resA, resAs, ofO, tgt, tgtL, D.frz, D.pure, D.pureL, D.frzL, mFail, mFailS, truD, List.replicate_succ, fLt, fLe, fGt, fGe, frzL_of_pure, hp, itF]) rfl hl (fun d m => by
      have e := t_is_between k d lo hi (h d m) (pureL_mem hp m)
      have hq := pureL_mem hp m
      simp [callM, somes, pureOut, finP, CR.nox, mSs, mSeq, mPass, mRetM, mRetN, mMove, mDo, mAsg, mIfS, mFor, mPar, allDt, mAndV, mOrV, mNotV, mBl, mTru, mAnd, mOr, mNot, mIf, mOp1, mOp2, mOpL, mL, mNil, mCons, mVar, mC, mCh, mVal, valA, mFz, mDt, mTup, mLst, mDct0, mCall, mPerm, permA, lentSlots_pure, back_pure, lentSlots_nil, lentSlots_dt, lentSlots_nm, lentAt_nil, lentAt_dt, lentAt_nm, mSl, mPart, mPart0, mItV, mItR1, mItR2, mItE, mMe, mMeEnd, mSto, resA, resAs, ofO, tgt, tgtL, D.frz, D.pure, D.pureL, D.frzL, mFail, mFailS, truD, List.replicate_succ, fLt, fLe, fGt, fGe, lcStep, others, wipeD, backD, mYes, e, hq, List.range_succ])
  simp only [mL] at lc
  simp [callM, somes, pureOut, finP, CR.nox, mSs, mSeq, mPass, mRetM, mRetN, mMove, mDo, mAsg, mIfS, mFor, mPar, allDt, mAndV, mOrV, mNotV, mBl, mTru, mAnd, mOr, mNot, mIf, mOp1, mOp2, mOpL, mL, mNil, mCons, mVar, mC, mCh, mVal, valA, mFz, mDt, mTup, mLst, mDct0, mCall, mPerm, permA, lentSlots_pure, back_pure, lentSlots_nil, lentSlots_dt, lentSlots_nm, lentAt_nil, lentAt_dt, lentAt_nm, mSl, mPart, mPart0, mItV, mItR1, mItR2, mItE, mMe, mMeEnd, mSto, resA, resAs, ofO, tgt, tgtL, D.frz, D.pure, D.pureL, D.frzL, mFail, mFailS, truD, List.replicate_succ, fLt, fLe, fGt, fGe, b_are_between, d_are_between, hp, lc, isi_tuple, allB, frzL_of_pure]
end Lw

set_option Elab.async false
set_option linter.all false
set_option maxRecDepth 100000
set_option maxHeartbeats 4000000
namespace Lw
open PySem L2 Yv Mt
def isTp : Yv.D → Bool
  | .tup _ => true
  | _ => false
theorem isi_no {d : Yv.D} (h : noS d = true) (ht : isTp d = false) : pIsi [d, .ty "tuple"] = some (.bl false) := by
  cases d <;> first | (simp [noS] at h; done) | (simp [isTp] at ht; done) | rfl
theorem t_are_between_no (k : Nat) (d : Yv.D) (lo hi : Int) (h : noS d = true) (ht : isTp d = false) (hp : d.pure = true) :
    fm_are_between (k + 1) [d, .int lo, .int hi] = .ok (.bl false) [d, .int lo, .int hi] := by
  rw [f_are_between]
  simp [callM, somes, pureOut, finP, CR.nox, mSs, mSeq, mPass, mRetM, mRetN, mMove, mDo, mAsg, mIfS, mFor, mPar, allDt, mAndV, mOrV, mNotV, mBl, mTru, mAnd, mOr, mNot, mIf, mOp1, mOp2, mOpL, mL, mNil, mCons, mVar, mC, mCh, mVal, valA, mFz, mDt, mTup, mLst, mDct0, mCall, mPerm, permA, lentSlots_pure, back_pure, lentSlots_nil, lentSlots_dt, lentSlots_nm, lentAt_nil, lentAt_dt, lentAt_nm, mSl, mPart, mPart0, mItV, mItR1, mItR2, mItE, mMe, mMeEnd, mSto, resA, resAs, ofO, tgt, tgtL, D.frz, D.pure, D.pureL, D.frzL, mFail, mFailS, truD, List.replicate_succ, fLt, fLe, fGt, fGe, b_are_between, d_are_between, hp, isi_no h ht]
theorem t_check_many (k : Nat) (n : Int) (h1 : 1 ≤ n) (h2 : n ≤ 24) : fm_check_many (k + 3) [.int n] = .ok .non [.int n] := by
  rw [f_check_many]
  have e := t_is_between k (.int n) 1 24 rfl rfl
  simp only [inR, h1, h2, decide_true, Bool.and_self] at e
  simp [callM, somes, pureOut, finP, CR.nox, mSs, mSeq, mPass, mRetM, mRetN, mMove, mDo, mAsg, mIfS, mFor, mPar, allDt, mAndV, mOrV, mNotV, mBl, mTru, mAnd, mOr, mNot, mIf, mOp1, mOp2, mOpL, mL, mNil, mCons, mVar, mC, mCh, mVal, valA, mFz, mDt, mTup, mLst, mDct0, mCall, mPerm, permA, lentSlots_pure, back_pure, lentSlots_nil, lentSlots_dt, lentSlots_nm, lentAt_nil, lentAt_dt, lentAt_nm, mSl, mPart, mPart0, mItV, mItR1, mItR2, mItE, mMe, mMeEnd, mSto, resA, resAs, ofO, tgt, tgtL, D.frz, D.pure, D.pureL, D.frzL, mFail, mFailS, truD, List.replicate_succ, fLt, fLe, fGt, fGe, b_check_many, d_check_many, e]
def turnB (n : Int) (ds : List Yv.D) : Bool := ds.all (inR 0 (n - 1)) && (decide ((ds.length : Int) = n) && match intsOf ds with
  | some ns => decide (((ddI ns).length : Int) = n)
  | none => false)
theorem ints_of_all {lo hi : Int} : ∀ {ds : List Yv.D}, ds.all (inR lo hi) = true → ∃ ns, intsOf ds = some ns
  | [], _ => ⟨[], rfl⟩
  | d :: ds, h => by
    simp only [List.all_cons, Bool.and_eq_true] at h
    obtain ⟨ns, e⟩ := ints_of_all h.2
    cases d with
    | int i => exact ⟨i :: ns, by simp [intsOf, e]⟩
    | _ => simp [inR] at h
theorem t_is_turn_of (k : Nat) (n : Int) (ds : List Yv.D) (h : ∀ d ∈ ds, noS d = true) (hp : D.pureL ds = true) (hl : ds.length ≤ 4000) :
    fm_is_turn_of (k + 4) [.int n, .tup ds] = .ok (.bl (turnB n ds)) [.int n, .tup ds] := by
  rw [f_is_turn_of]
  have e := t_are_between k ds 0 (n - 1) h hp (by omega)
  by_cases h1 : ds.all (inR 0 (n - 1)) = true
  · obtain ⟨ns, e2⟩ := ints_of_all h1
    have e3 : ns.length ≤ 4000 := by
      have : ∀ {ds : List Yv.D} {ns : List Int}, intsOf ds = some ns → ns.length = ds.length := fun {ds} => by
        induction ds with
        | nil => intro ns q; simp [intsOf] at q; subst q; rfl
        | cons d ds ih =>
          intro ns q
          cases d with
          | int i =>
            simp only [intsOf, Option.map_eq_some_iff] at q
            obtain ⟨ms, q1, rfl⟩ := q
            simp [ih q1]
          | _ => simp [intsOf] at q
      rw [this e2]; exact hl
    have e4 : pSetLen (.tup ds) = some (.int ((ddI ns).length : Nat)) := by
      unfold pSetLen itS itL itT; simp [hp, e2, e3]
    rw [h1] at e
    by_cases h3 : (ds.length : Int) = n
    · simp [callM, somes, pureOut, finP, CR.nox, mSs, mSeq, mPass, mRetM, mRetN, mMove, mDo, mAsg, mIfS, mFor, mPar, allDt, mAndV, mOrV, mNotV, mBl, mTru, mAnd, mOr, mNot, mIf, mOp1, mOp2, mOpL, mL, mNil, mCons, mVar, mC, mCh, mVal, valA, mFz, mDt, mTup, mLst, mDct0, mCall, mPerm, permA, lentSlots_pure, back_pure, lentSlots_nil, lentSlots_dt, lentSlots_nm, lentAt_nil, lentAt_dt, lentAt_nm, mSl, mPart, mPart0, mItV, mItR1, mItR2, mItE, mMe, mMeEnd, mSto, resA, resAs, ofO, tgt, tgtL, D.frz, D.pure, D.pureL, D.frzL, mFail, mFailS, truD, List.replicate_succ, fLt, fLe, fGt, fGe, b_is_turn_of, d_is_turn_of, pSub, e, hp, pLen, lenD, pEq_I, h3, e4, turnB, h1, e2, frzL_of_pure]
    · simp [callM, somes, pureOut, finP, CR.nox, mSs, mSeq, mPass, mRetM, mRetN, mMove, mDo, mAsg, mIfS, mFor, mPar, allDt, mAndV, mOrV, mNotV, mBl, mTru, mAnd, mOr, mNot, mIf, mOp1, mOp2, mOpL, mL, mNil, mCons, mVar, mC, mCh, mVal, valA, mFz, mDt, mTup, mLst, mDct0, mCall, mPerm, permA, lentSlots_pure, back_pure, lentSlots_nil, lentSlots_dt, lentSlots_nm, lentAt_nil, lentAt_dt, lentAt_nm, mSl, mPart, mPart0, mItV, mItR1, mItR2, mItE, mMe, mMeEnd, mSto, resA, resAs, ofO, tgt, tgtL, D.frz, D.pure, D.pureL, D.frzL, mFail, mFailS, truD, List.replicate_succ, fLt, fLe, fGt, fGe, b_is_turn_of, d_is_turn_of, pSub, e, hp, pLen, lenD, pEq_I, h3, turnB, h1, e2, frzL_of_pure]
  · rw [Bool.not_eq_true] at h1
    rw [h1] at e
    simp [callM, somes, pureOut, finP, CR.nox, mSs, mSeq, mPass, mRetM, mRetN, mMove, mDo, mAsg, mIfS, mFor, mPar, allDt, mAndV, mOrV, mNotV, mBl, mTru, mAnd, mOr, mNot, mIf, mOp1, mOp2, mOpL, mL, mNil, mCons, mVar, mC, mCh, mVal, valA, mFz, mDt, mTup, mLst, mDct0, mCall, mPerm, permA, lentSlots_pure, back_pure, lentSlots_nil, lentSlots_dt, lentSlots_nm, lentAt_nil, lentAt_dt, lentAt_nm, mSl, mPart, mPart0, mItV, mItR1, mItR2, mItE, mMe, mMeEnd, mSto, resA, resAs, ofO, tgt, tgtL, D.frz, D.pure, D.pureL, D.frzL, mFail, mFailS, truD, List.replicate_succ, fLt, fLe, fGt, fGe, b_is_turn_of, d_is_turn_of, pSub, e, hp, turnB, h1]
theorem t_is_turn_of_no (k : Nat) (n : Int) (d : Yv.D) (h : noS d = true) (ht : isTp d = false) (hp : d.pure = true) :
    fm_is_turn_of (k + 2) [.int n, d] = .ok (.bl false) [.int n, d] := by
  rw [f_is_turn_of]
  have e := t_are_between_no k d 0 (n - 1) h ht hp
  simp [callM, somes, pureOut, finP, CR.nox, mSs, mSeq, mPass, mRetM, mRetN, mMove, mDo, mAsg, mIfS, mFor, mPar, allDt, mAndV, mOrV, mNotV, mBl, mTru, mAnd, mOr, mNot, mIf, mOp1, mOp2, mOpL, mL, mNil, mCons, mVar, mC, mCh, mVal, valA, mFz, mDt, mTup, mLst, mDct0, mCall, mPerm, permA, lentSlots_pure, back_pure, lentSlots_nil, lentSlots_dt, lentSlots_nm, lentAt_nil, lentAt_dt, lentAt_nm, mSl, mPart, mPart0, mItV, mItR1, mItR2, mItE, mMe, mMeEnd, mSto, resA, resAs, ofO, tgt, tgtL, D.frz, D.pure, D.pureL, D.frzL, mFail, mFailS, truD, List.replicate_succ, fLt, fLe, fGt, fGe, b_is_turn_of, d_is_turn_of, pSub, e, hp]
theorem t_is_turn (k : Nat) (n : Int) (h1 : 1 ≤ n) (h2 : n ≤ 24) (ds : List Yv.D) (h : ∀ d ∈ ds, noS d = true) (hp : D.pureL ds = true) (hl : ds.length ≤ 4000) :
    fm_is_turn (k + 5) [.int n, .tup ds] = .ok (.bl (turnB n ds)) [.int n, .tup ds] := by
  rw [f_is_turn]
  have e1 := t_check_many (k + 1) n h1 h2
  have e2 := t_is_turn_of k n ds h hp hl
  simp [callM, somes, pureOut, finP, CR.nox, mSs, mSeq, mPass, mRetM, mRetN, mMove, mDo, mAsg, mIfS, mFor, mPar, allDt, mAndV, mOrV, mNotV, mBl, mTru, mAnd, mOr, mNot, mIf, mOp1, mOp2, mOpL, mL, mNil, mCons, mVar, mC, mCh, mVal, valA, mFz, mDt, mTup, mLst, mDct0, mCall, mPerm, permA, lentSlots_pure, back_pure, lentSlots_nil, lentSlots_dt, lentSlots_nm, lentAt_nil, lentAt_dt, lentAt_nm, mSl, mPart, mPart0, mItV, mItR1, mItR2, mItE, mMe, mMeEnd, mSto, resA, resAs, ofO, tgt, tgtL, D.frz, D.pure, D.pureL, D.frzL, mFail, mFailS, truD, List.replicate_succ, fLt, fLe, fGt, fGe, b_is_turn, d_is_turn, e1, e2, hp]
theorem t_is_turn_no (k : Nat) (n : Int) (h1 : 1 ≤ n) (h2 : n ≤ 24) (d : Yv.D) (h : noS d = true) (ht : isTp d = false) (hp : d.pure = true) :
    fm_is_turn (k + 5) [.int n, d] = .ok (.bl false) [.int n, d] := by
  rw [f_is_turn]
  have e1 := t_check_many (k + 1) n h1 h2
  have e2 := t_is_turn_of_no (k + 2) n d h ht hp
  simp [callM, somes, pureOut, finP, CR.nox, mSs, mSeq, mPass, mRetM, mRetN, mMove, mDo, mAsg, mIfS, mFor, mPar, allDt, mAndV, mOrV, mNotV, mBl, mTru, mAnd, mOr, mNot, mIf, mOp1, mOp2, mOpL, mL, mNil, mCons, mVar, mC, mCh, mVal, valA, mFz, mDt, mTup, mLst, mDct0, mCall, mPerm, permA, lentSlots_pure, back_pure, lentSlots_nil, lentSlots_dt, lentSlots_nm, lentAt_nil, lentAt_dt, lentAt_nm, mSl, mPart, mPart0, mItV, mItR1, mItR2, mItE, mMe, mMeEnd, mSto, resA, resAs, ofO, tgt, tgtL, D.frz, D.pure, D.pureL, D.frzL, mFail, mFailS, truD, List.replicate_succ, fLt, fLe, fGt, fGe, b_is_turn, d_is_turn, e1, e2, hp]
theorem noS_nI (l : List Nat) : ∀ d ∈ nI l, noS d = true := fun d m => by obtain ⟨x, _, rfl⟩ := nI_mem m; rfl
theorem ddI_nodup : ∀ {l : List Int}, l.Nodup → ddI l = l
  | [], _ => rfl
  | a :: l, h => by
    rw [List.nodup_cons] at h
    unfold ddI; rw [if_neg h.1, ddI_nodup h.2]
theorem turnB_T {n : Nat} {p : List Nat} (h : IsT n p) : turnB n (nI p) = true := by
  unfold turnB
  rw [intsOf_nI, nI_len, h.len]
  have e1 : (nI p).all (inR 0 ((n : Int) - 1)) = true := by
    rw [List.all_eq_true]; intro d m
    obtain ⟨x, mx, rfl⟩ := nI_mem m
    have := h.lt x mx
    simp only [inR, Bool.and_eq_true, decide_eq_true_eq]; omega
  have e2 : (p.map fun (x : Nat) => (x : Int)).Nodup := by
    have : ∀ {l : List Nat}, l.Nodup → (l.map fun (x : Nat) => (x : Int)).Nodup := fun {l} => by
      induction l with
      | nil => simp
      | cons a l ih =>
        intro q
        rw [List.nodup_cons] at q
        rw [List.map_cons, List.nodup_cons]
        refine ⟨fun m => ?_, ih q.2⟩
        obtain ⟨b, mb, e⟩ := List.mem_map.mp m
        have : b = a := by omega
        exact q.1 (this ▸ mb)
    exact this h.nd
  rw [e1]
  simp only [Bool.true_and]
  rw [ddI_nodup e2]; simp [h.len]
theorem t_check_turn (k : Nat) {n : Nat} {p : List Nat} (h : IsT n p) (h1 : 1 ≤ n) (h2 : n ≤ 24) : fm_check_turn (k + 5) [TN p] = .ok .non [TN p] := by
  rw [f_check_turn]
  have e := t_is_turn_of k n (nI p) (noS_nI p) (nI_pure p) (by rw [nI_len, h.len]; omega)
  rw [turnB_T h] at e
  have e2 : (1 : Int) ≤ n := by omega
  have e3 : (n : Int) ≤ 24 := by omega
  simp [callM, somes, pureOut, finP, CR.nox, mSs, mSeq, mPass, mRetM, mRetN, mMove, mDo, mAsg, mIfS, mFor, mPar, allDt, mAndV, mOrV, mNotV, mBl, mTru, mAnd, mOr, mNot, mIf, mOp1, mOp2, mOpL, mL, mNil, mCons, mVar, mC, mCh, mVal, valA, mFz, mDt, mTup, mLst, mDct0, mCall, mPerm, permA, lentSlots_pure, back_pure, lentSlots_nil, lentSlots_dt, lentSlots_nm, lentAt_nil, lentAt_dt, lentAt_nm, mSl, mPart, mPart0, mItV, mItR1, mItR2, mItE, mMe, mMeEnd, mSto, resA, resAs, ofO, tgt, tgtL, D.frz, D.pure, D.pureL, D.frzL, mFail, mFailS, truD, List.replicate_succ, fLt, fLe, fGt, fGe, b_check_turn, d_check_turn, pLen, lenD, nI_len, h.len, nI_pure, isi_tuple, pOrd, e, e2, e3]
theorem t_check_both_turns (k : Nat) {n : Nat} {p q : List Nat} (h : IsT n p) (g : IsT n q) (h1 : 1 ≤ n) (h2 : n ≤ 24) : fm_check_both_turns (k + 6) [TN p, TN q] = .ok .non [TN p, TN q] := by
  rw [f_check_both_turns]
  have e1 := t_check_turn k h h1 h2
  have e2 := t_check_turn k g h1 h2
  simp [callM, somes, pureOut, finP, CR.nox, mSs, mSeq, mPass, mRetM, mRetN, mMove, mDo, mAsg, mIfS, mFor, mPar, allDt, mAndV, mOrV, mNotV, mBl, mTru, mAnd, mOr, mNot, mIf, mOp1, mOp2, mOpL, mL, mNil, mCons, mVar, mC, mCh, mVal, valA, mFz, mDt, mTup, mLst, mDct0, mCall, mPerm, permA, lentSlots_pure, back_pure, lentSlots_nil, lentSlots_dt, lentSlots_nm, lentAt_nil, lentAt_dt, lentAt_nm, mSl, mPart, mPart0, mItV, mItR1, mItR2, mItE, mMe, mMeEnd, mSto, resA, resAs, ofO, tgt, tgtL, D.frz, D.pure, D.pureL, D.frzL, mFail, mFailS, truD, List.replicate_succ, fLt, fLe, fGt, fGe, b_check_both_turns, d_check_both_turns, pLen, lenD, nI_len, h.len, g.len, nI_pure, e1, e2, pNe_I]
theorem small_nat (n : Nat) (h : n ≤ 1000000) : small (n : Int) = true :=
  in62_of (by omega) (by omega)
theorem rgOk_nat (n : Nat) (h : n ≤ 1000000) : rgOk 0 (n : Int) = true := by
  unfold rgOk; rw [small_nat n h]
  simp only [Bool.and_true, Bool.and_eq_true, decide_eq_true_eq]
  exact ⟨small_nat 0 (by omega), by omega⟩
theorem rgT1 (n : Nat) (h : n ≤ 1000000) : pRgT1 (.int (n : Int)) = some (TN (List.range n)) := by
  have e := rgOk_nat n h
  simp only [pRgT1]
  rw [if_pos e, Int.toNat_natCast, intsD_eq]
theorem rgL1 (n : Nat) (h : n ≤ 1000000) : pRgL1 (.int (n : Int)) = some (LS true (List.range n)) := by
  have e := rgOk_nat n h
  simp only [pRgL1]
  rw [if_pos e, Int.toNat_natCast, intsD_eq]
theorem t_still_of (k : Nat) (n : Nat) (h2 : n ≤ 24) : fm_still_of (k + 1) [.int n] = .ok (TN (idt n)) [.int n] := by
  rw [f_still_of]
  have e := rgT1 n (by omega)
  simp [callM, somes, pureOut, finP, CR.nox, mSs, mSeq, mPass, mRetM, mRetN, mMove, mDo, mAsg, mIfS, mFor, mPar, allDt, mAndV, mOrV, mNotV, mBl, mTru, mAnd, mOr, mNot, mIf, mOp1, mOp2, mOpL, mL, mNil, mCons, mVar, mC, mCh, mVal, valA, mFz, mDt, mTup, mLst, mDct0, mCall, mPerm, permA, lentSlots_pure, back_pure, lentSlots_nil, lentSlots_dt, lentSlots_nm, lentAt_nil, lentAt_dt, lentAt_nm, mSl, mPart, mPart0, mItV, mItR1, mItR2, mItE, mMe, mMeEnd, mSto, resA, resAs, ofO, tgt, tgtL, D.frz, D.pure, D.pureL, D.frzL, mFail, mFailS, truD, List.replicate_succ, fLt, fLe, fGt, fGe, b_still_of, d_still_of, e, idt]
theorem t_still (k : Nat) (n : Nat) (h1 : 1 ≤ n) (h2 : n ≤ 24) : fm_still (k + 4) [.int n] = .ok (TN (idt n)) [.int n] := by
  rw [f_still]
  have e1 := t_check_many k n (by omega) (by omega)
  have e2 := t_still_of (k + 2) n h2
  simp [callM, somes, pureOut, finP, CR.nox, mSs, mSeq, mPass, mRetM, mRetN, mMove, mDo, mAsg, mIfS, mFor, mPar, allDt, mAndV, mOrV, mNotV, mBl, mTru, mAnd, mOr, mNot, mIf, mOp1, mOp2, mOpL, mL, mNil, mCons, mVar, mC, mCh, mVal, valA, mFz, mDt, mTup, mLst, mDct0, mCall, mPerm, permA, lentSlots_pure, back_pure, lentSlots_nil, lentSlots_dt, lentSlots_nm, lentAt_nil, lentAt_dt, lentAt_nm, mSl, mPart, mPart0, mItV, mItR1, mItR2, mItE, mMe, mMeEnd, mSto, resA, resAs, ofO, tgt, tgtL, D.frz, D.pure, D.pureL, D.frzL, mFail, mFailS, truD, List.replicate_succ, fLt, fLe, fGt, fGe, b_still, d_still, e1, e2]
end Lw

set_option Elab.async false
set_option linter.all false
set_option maxRecDepth 100000
set_option maxHeartbeats 4000000
namespace Lw
open PySem L2 Yv Mt
theorem itF_T (l : List Nat) : itF (TN l) = some (nI l) := by simp [itF, nI_pure]
theorem tupOf_L (o : Bool) (l : List Nat) : pTupOf [LS o l] = some (TN l) := by simp [pTupOf, itS, itL, nI_pure]
theorem nI_map (l : List Nat) (f : Nat → Nat) (g : Yv.D → Yv.D) (h : ∀ x ∈ l, g (.int (x : Int)) = .int (f x : Nat)) : (nI l).map g = nI (l.map f) := by
  unfold nI
  rw [List.map_map, List.map_map]
  exact List.map_congr_left h
def ixD (q : List Nat) : Yv.D → Yv.D
  | .int i => .int (ap q i.toNat : Nat)
  | d => d
theorem t_then (k : Nat) {n : Nat} {p q : List Nat} (h : ∀ x ∈ p, x < n) (g : q.length = n) (hl : p.length ≤ 1000) : fm_then (k + 1) [TN p, TN q] = .ok (TN (thn p q)) [TN p, TN q] := by
  rw [f_then]
  have lc := lc_map (mi := mItV (mVar 0)) (t := .nm 2) (tt := mYes) (te := mOp2 pIx (mVar 1) (mVar 2)) (vs := [2]) (δ := [some (TN p), some (TN q), none]) (δ1 := [some (TN p), some (TN q), none]) (ds := nI p)
    (ixD q) (by simp [callM, somes, pureOut, finP, CR.nox, mSs, mSeq, mPass, mRetM, mRetN, mMove, mDo, mAsg, mIfS, mFor, mPar, allDt, mAndV, mOrV, mNotV, mBl, mTru, mAnd, mOr, mNot, mIf, mOp1, mOp2, mOpL, mL, mNil, mCons, mVar, mC, mCh, mVal, valA, mFz, mDt, mTup, mLst, mDct0, mCall, mPerm, permA, lentSlots_pure, back_pure, lentSlots_nil, lentSlots_dt, lentSlots_nm, lentAt_nil, lentAt_dt, lentAt_nm, mSl, mPart, mPart0, mItV, mItR1, mItR2, mItE, mMe, mMeEnd, mSto, resA, resAs, ofO, tgt, tgtL, D.frz, D.pure, D.pureL, D.frzL, mFail, mFailS, truD, List.replicate_succ, fLt, fLe, fGt, fGe, nI_frz, nI_pure, itF]) rfl (by rw [nI_len]; omega) (fun d m => by
      obtain ⟨x, mx, rfl⟩ := nI_mem m
      have e := pIx_T (l := q) (i := x) (by rw [g]; exact h x mx)
      simp [callM, somes, pureOut, finP, CR.nox, mSs, mSeq, mPass, mRetM, mRetN, mMove, mDo, mAsg, mIfS, mFor, mPar, allDt, mAndV, mOrV, mNotV, mBl, mTru, mAnd, mOr, mNot, mIf, mOp1, mOp2, mOpL, mL, mNil, mCons, mVar, mC, mCh, mVal, valA, mFz, mDt, mTup, mLst, mDct0, mCall, mPerm, permA, lentSlots_pure, back_pure, lentSlots_nil, lentSlots_dt, lentSlots_nm, lentAt_nil, lentAt_dt, lentAt_nm, mSl, mPart, mPart0, mItV, mItR1, mItR2, mItE, mMe, mMeEnd, mSto, resA, resAs, ofO, tgt, tgtL, D.frz, D.pure, D.pureL, D.frzL, mFail, mFailS, truD, List.replicate_succ, fLt, fLe, fGt, fGe, lcStep, others, wipeD, backD, mYes, e, List.range_succ, nI_frz, ixD])
  have e : (nI p).map (ixD q) = nI (thn p q) := nI_map p _ _ fun x _ => by simp [ixD]
  rw [e] at lc
  simp [callM, somes, pureOut, finP, CR.nox, mSs, mSeq, mPass, mRetM, mRetN, mMove, mDo, mAsg, mIfS, mFor, mPar, allDt, mAndV, mOrV, mNotV, mBl, mTru, mAnd, mOr, mNot, mIf, mOp1, mOp2, mOpL, mL, mNil, mCons, mVar, mC, mCh, mVal, valA, mFz, mDt, mTup, mLst, mDct0, mCall, mPerm, permA, lentSlots_pure, back_pure, lentSlots_nil, lentSlots_dt, lentSlots_nm, lentAt_nil, lentAt_dt, lentAt_nm, mSl, mPart, mPart0, mItV, mItR1, mItR2, mItE, mMe, mMeEnd, mSto, resA, resAs, ofO, tgt, tgtL, D.frz, D.pure, D.pureL, D.frzL, mFail, mFailS, truD, List.replicate_succ, fLt, fLe, fGt, fGe, b_then, d_then, lc, tupOf_L, nI_pure, nI_frz]
theorem t__law_then (k : Nat) {n : Nat} {p q : List Nat} (h : ∀ x ∈ p, x < n) (g : q.length = n) (hl : p.length ≤ 1000) : fm__law_then (k + 1) [TN p, TN q] = .ok (TN (thn p q)) [TN p, TN q] := by
  rw [f__law_then]
  have lc := lc_map (mi := mItV (mVar 0)) (t := .nm 2) (tt := mYes) (te := mOp2 pIx (mVar 1) (mVar 2)) (vs := [2]) (δ := [some (TN p), some (TN q), none]) (δ1 := [some (TN p), some (TN q), none]) (ds := nI p)
    (ixD q) (by simp [callM, somes, pureOut, finP, CR.nox, mSs, mSeq, mPass, mRetM, mRetN, mMove, mDo, mAsg, mIfS, mFor, mPar, allDt, mAndV, mOrV, mNotV, mBl, mTru, mAnd, mOr, mNot, mIf, mOp1, mOp2, mOpL, mL, mNil, mCons, mVar, mC, mCh, mVal, valA, mFz, mDt, mTup, mLst, mDct0, mCall, mPerm, permA, lentSlots_pure, back_pure, lentSlots_nil, lentSlots_dt, lentSlots_nm, lentAt_nil, lentAt_dt, lentAt_nm, mSl, mPart, mPart0, mItV, mItR1, mItR2, mItE, mMe, mMeEnd, mSto, resA, resAs, ofO, tgt, tgtL, D.frz, D.pure, D.pureL, D.frzL, mFail, mFailS, truD, List.replicate_succ, fLt, fLe, fGt, fGe, nI_frz, nI_pure, itF]) rfl (by rw [nI_len]; omega) (fun d m => by
      obtain ⟨x, mx, rfl⟩ := nI_mem m
      have e := pIx_T (l := q) (i := x) (by rw [g]; exact h x mx)
      simp [callM, somes, pureOut, finP, CR.nox, mSs, mSeq, mPass, mRetM, mRetN, mMove, mDo, mAsg, mIfS, mFor, mPar, allDt, mAndV, mOrV, mNotV, mBl, mTru, mAnd, mOr, mNot, mIf, mOp1, mOp2, mOpL, mL, mNil, mCons, mVar, mC, mCh, mVal, valA, mFz, mDt, mTup, mLst, mDct0, mCall, mPerm, permA, lentSlots_pure, back_pure, lentSlots_nil, lentSlots_dt, lentSlots_nm, lentAt_nil, lentAt_dt, lentAt_nm, mSl, mPart, mPart0, mItV, mItR1, mItR2, mItE, mMe, mMeEnd, mSto, resA, resAs, ofO, tgt, tgtL, D.frz, D.pure, D.pureL, D.frzL, mFail, mFailS, truD, List.replicate_succ, fLt, fLe, fGt, fGe, lcStep, others, wipeD, backD, mYes, e, List.range_succ, nI_frz, ixD])
  have e : (nI p).map (ixD q) = nI (thn p q) := nI_map p _ _ fun x _ => by simp [ixD]
  rw [e] at lc
  simp [callM, somes, pureOut, finP, CR.nox, mSs, mSeq, mPass, mRetM, mRetN, mMove, mDo, mAsg, mIfS, mFor, mPar, allDt, mAndV, mOrV, mNotV, mBl, mTru, mAnd, mOr, mNot, mIf, mOp1, mOp2, mOpL, mL, mNil, mCons, mVar, mC, mCh, mVal, valA, mFz, mDt, mTup, mLst, mDct0, mCall, mPerm, permA, lentSlots_pure, back_pure, lentSlots_nil, lentSlots_dt, lentSlots_nm, lentAt_nil, lentAt_dt, lentAt_nm, mSl, mPart, mPart0, mItV, mItR1, mItR2, mItE, mMe, mMeEnd, mSto, resA, resAs, ofO, tgt, tgtL, D.frz, D.pure, D.pureL, D.frzL, mFail, mFailS, truD, List.replicate_succ, fLt, fLe, fGt, fGe, b__law_then, d__law_then, lc, tupOf_L, nI_pure, nI_frz]
theorem t_behind (k : Nat) {n : Nat} {p q : List Nat} (h : IsT n p) (g : IsT n q) (h1 : 1 ≤ n) (h2 : n ≤ 24) : fm_behind (k + 7) [TN p, TN q] = .ok (TN (thn p q)) [TN p, TN q] := by
  rw [f_behind]
  have e1 := t_check_both_turns k h g h1 h2
  have e2 := t_then (k + 5) h.lt g.len (by rw [h.len]; omega)
  simp [callM, somes, pureOut, finP, CR.nox, mSs, mSeq, mPass, mRetM, mRetN, mMove, mDo, mAsg, mIfS, mFor, mPar, allDt, mAndV, mOrV, mNotV, mBl, mTru, mAnd, mOr, mNot, mIf, mOp1, mOp2, mOpL, mL, mNil, mCons, mVar, mC, mCh, mVal, valA, mFz, mDt, mTup, mLst, mDct0, mCall, mPerm, permA, lentSlots_pure, back_pure, lentSlots_nil, lentSlots_dt, lentSlots_nm, lentAt_nil, lentAt_dt, lentAt_nm, mSl, mPart, mPart0, mItV, mItR1, mItR2, mItE, mMe, mMeEnd, mSto, resA, resAs, ofO, tgt, tgtL, D.frz, D.pure, D.pureL, D.frzL, mFail, mFailS, truD, List.replicate_succ, fLt, fLe, fGt, fGe, b_behind, d_behind, nI_pure, e1, e2]
end Lw

set_option Elab.async false
set_option linter.all false
set_option maxRecDepth 100000
set_option maxHeartbeats 4000000
namespace Lw
open PySem L2 Yv Mt
theorem pairs_at {l : List Nat} {i : Nat} {d : Yv.D} (h : (pairsOfD (intsD 0 l.length) (nI l))[i]? = some d) : i < l.length ∧ d = .ptu [.int (i : Int), .int (ap l i : Nat)] := by
  unfold pairsOfD at h
  rw [intsD_eq] at h
  simp only [List.getElem?_map, Option.map_eq_some_iff] at h
  obtain ⟨a, q, rfl⟩ := h
  rw [List.getElem?_zip_eq_some] at q
  obtain ⟨q1, q2⟩ := q
  have hi : i < l.length := by
    have := (List.getElem?_eq_some_iff.mp q2).1; rwa [nI_len] at this
  rw [nI_at hi] at q2
  rw [nI_at (by simpa using hi)] at q1
  refine ⟨hi, ?_⟩
  cases q1' : a.1 with
  | int v => rw [q1'] at q1; simp at q1; rw [ap_eq hi]; simp at q2; rw [← q2, ← q1]
  | _ => rw [q1'] at q1; simp at q1
theorem pairs_len (l : List Nat) : (pairsOfD (intsD 0 l.length) (nI l)).length = l.length := by
  unfold pairsOfD; rw [intsD_eq]; simp [nI_len]
theorem rep0 (o : Bool) (n : Nat) (h : n ≤ 1000) : pMul (.lst o [.int 0]) (.int (n : Int)) = some (LS true (List.replicate n 0)) := by
  have e1 : (List.replicate (n : Int).toNat [Yv.D.int 0]).flatten = nI (List.replicate n 0) := by
    rw [Int.toNat_natCast]; simp [nI]
  show (if D.pureL [Yv.D.int 0] && in62 (n : Int) && Yv.sizeOk (1 * (n : Int).toNat) then some (Yv.D.lst true (List.replicate (n : Int).toNat [Yv.D.int 0]).flatten) else none) = _
  rw [in62_of (by omega) (by omega), e1]
  rw [if_pos]
  simp only [D.pureL, D.pure, Bool.and_self, Bool.true_and, Yv.sizeOk, decide_eq_true_eq, Int.toNat_natCast]; omega
theorem itE_T (δ δ1 : Env') (m : Mn A) (l : List Nat) (h : mItV m δ = .ok (nI l) δ1) : mItE m δ = .ok (pairsOfD (intsD 0 l.length) (nI l)) δ1 := by
  unfold mItE; rw [h]; simp [nI_len]
theorem t_back_of (k : Nat) {n : Nat} {p : List Nat} (h : IsT n p) (h2 : n ≤ 24) : fm_back_of (k + 1) [TN p] = .ok (TN (bk p)) [TN p] := by
  rw [f_back_of]
  have e1 := rep0 true n (by omega)
  obtain ⟨δ', g1, g2⟩ := for_inv (P := [0]) (mi := mItE (mVar 0)) (t := .tp [.nm 2, .nm 3]) (b := mSs [mSto 1 (mVar 3) (mVar 2)]) (δ := [some (TN p), some (LS true (List.replicate n 0)), none, none]) (δ1 := [some (TN p), some (LS true (List.replicate n 0)), none, none])
    (fun i δ => ∃ t a b, δ = [some (TN p), some (LS true t), a, b] ∧ t.length = n ∧ ∀ j, j < i → ap t (ap p j) = j) (itE_T _ _ _ p (by simp [callM, somes, pureOut, finP, CR.nox, mSs, mSeq, mPass, mRetM, mRetN, mMove, mDo, mAsg, mIfS, mFor, mPar, allDt, mAndV, mOrV, mNotV, mBl, mTru, mAnd, mOr, mNot, mIf, mOp1, mOp2, mOpL, mL, mNil, mCons, mVar, mC, mCh, mVal, valA, mFz, mDt, mTup, mLst, mDct0, mCall, mPerm, permA, lentSlots_pure, back_pure, lentSlots_nil, lentSlots_dt, lentSlots_nm, lentAt_nil, lentAt_dt, lentAt_nm, mSl, mPart, mPart0, mItV, mItR1, mItR2, mItE, mMe, mMeEnd, mSto, resA, resAs, ofO, tgt, tgtL, D.frz, D.pure, D.pureL, D.frzL, mFail, mFailS, truD, List.replicate_succ, fLt, fLe, fGt, fGe, nI_frz, nI_pure, itF])) ⟨List.replicate n 0, none, none, rfl, by simp, by intro j q; omega⟩ (by
      rintro i d δ w ⟨t, a, b, rfl, q1, q2⟩
      obtain ⟨hi, rfl⟩ := pairs_at w
      rw [h.len] at hi
      have hx := h.ap_lt hi
      have e := pSet_L (l := t) (i := ap p i) (v := i) (by rw [q1]; exact hx)
      refine ⟨[some (TN p), some (LS true t), some (.int (i : Int)), some (.int (ap p i : Nat))], [some (TN p), some (LS true (t.set (ap p i) i)), some (.int (i : Int)), some (.int (ap p i : Nat))], by simp [callM, somes, pureOut, finP, CR.nox, mSs, mSeq, mPass, mRetM, mRetN, mMove, mDo, mAsg, mIfS, mFor, mPar, allDt, mAndV, mOrV, mNotV, mBl, mTru, mAnd, mOr, mNot, mIf, mOp1, mOp2, mOpL, mL, mNil, mCons, mVar, mC, mCh, mVal, valA, mFz, mDt, mTup, mLst, mDct0, mCall, mPerm, permA, lentSlots_pure, back_pure, lentSlots_nil, lentSlots_dt, lentSlots_nm, lentAt_nil, lentAt_dt, lentAt_nm, mSl, mPart, mPart0, mItV, mItR1, mItR2, mItE, mMe, mMeEnd, mSto, resA, resAs, ofO, tgt, tgtL, D.frz, D.pure, D.pureL, D.frzL, mFail, mFailS, truD, List.replicate_succ, fLt, fLe, fGt, fGe], by simp [callM, somes, pureOut, finP, CR.nox, mSs, mSeq, mPass, mRetM, mRetN, mMove, mDo, mAsg, mIfS, mFor, mPar, allDt, mAndV, mOrV, mNotV, mBl, mTru, mAnd, mOr, mNot, mIf, mOp1, mOp2, mOpL, mL, mNil, mCons, mVar, mC, mCh, mVal, valA, mFz, mDt, mTup, mLst, mDct0, mCall, mPerm, permA, lentSlots_pure, back_pure, lentSlots_nil, lentSlots_dt, lentSlots_nm, lentAt_nil, lentAt_dt, lentAt_nm, mSl, mPart, mPart0, mItV, mItR1, mItR2, mItE, mMe, mMeEnd, mSto, resA, resAs, ofO, tgt, tgtL, D.frz, D.pure, D.pureL, D.frzL, mFail, mFailS, truD, List.replicate_succ, fLt, fLe, fGt, fGe, e], _, _, _, rfl, by simpa using q1, fun j hj => ?_⟩
      rw [ap_set (by rw [q1]; exact h.ap_lt (by omega))]
      by_cases c : j = i
      · subst c; simp
      · rw [if_neg (fun z => c (h.ap_inj (by omega) hi z))]; exact q2 j (by omega))
  obtain ⟨t, a, b, rfl, q1, q2⟩ := g2
  rw [pairs_len, h.len] at q2
  have et : t = bk p := ext_ap q1 (by rw [bk_len, h.len]) fun x hx => by
    have := q2 (ap (bk p) x) (h.bk.ap_lt hx)
    rwa [h.ap_ap_bk hx] at this
  subst et
  refine run_rt (by simp [callM, somes, pureOut, finP, CR.nox, mSs, mSeq, mPass, mRetM, mRetN, mMove, mDo, mAsg, mIfS, mFor, mPar, allDt, mAndV, mOrV, mNotV, mBl, mTru, mAnd, mOr, mNot, mIf, mOp1, mOp2, mOpL, mL, mNil, mCons, mVar, mC, mCh, mVal, valA, mFz, mDt, mTup, mLst, mDct0, mCall, mPerm, permA, lentSlots_pure, back_pure, lentSlots_nil, lentSlots_dt, lentSlots_nm, lentAt_nil, lentAt_dt, lentAt_nm, mSl, mPart, mPart0, mItV, mItR1, mItR2, mItE, mMe, mMeEnd, mSto, resA, resAs, ofO, tgt, tgtL, D.frz, D.pure, D.pureL, D.frzL, mFail, mFailS, truD, List.replicate_succ, fLt, fLe, fGt, fGe, d_back_of, nI_pure]) (ss_nx (δ1 := [some (TN p), some (LS true (List.replicate n 0)), none, none]) ?_ (ss_nx g1 (ss_rt (d := TN (bk p)) (δ1 := [some (TN p), some (LS true (bk p)), a, b]) ?_))) ?_
  · simp [callM, somes, pureOut, finP, CR.nox, mSs, mSeq, mPass, mRetM, mRetN, mMove, mDo, mAsg, mIfS, mFor, mPar, allDt, mAndV, mOrV, mNotV, mBl, mTru, mAnd, mOr, mNot, mIf, mOp1, mOp2, mOpL, mL, mNil, mCons, mVar, mC, mCh, mVal, valA, mFz, mDt, mTup, mLst, mDct0, mCall, mPerm, permA, lentSlots_pure, back_pure, lentSlots_nil, lentSlots_dt, lentSlots_nm, lentAt_nil, lentAt_dt, lentAt_nm, mSl, mPart, mPart0, mItV, mItR1, mItR2, mItE, mMe, mMeEnd, mSto, resA, resAs, ofO, tgt, tgtL, D.frz, D.pure, D.pureL, D.frzL, mFail, mFailS, truD, List.replicate_succ, fLt, fLe, fGt, fGe, d_back_of, pLen, lenD, nI_len, h.len, e1, nI_frz, Yv.sizeOk]
  · simp [callM, somes, pureOut, finP, CR.nox, mSs, mSeq, mPass, mRetM, mRetN, mMove, mDo, mAsg, mIfS, mFor, mPar, allDt, mAndV, mOrV, mNotV, mBl, mTru, mAnd, mOr, mNot, mIf, mOp1, mOp2, mOpL, mL, mNil, mCons, mVar, mC, mCh, mVal, valA, mFz, mDt, mTup, mLst, mDct0, mCall, mPerm, permA, lentSlots_pure, back_pure, lentSlots_nil, lentSlots_dt, lentSlots_nm, lentAt_nil, lentAt_dt, lentAt_nm, mSl, mPart, mPart0, mItV, mItR1, mItR2, mItE, mMe, mMeEnd, mSto, resA, resAs, ofO, tgt, tgtL, D.frz, D.pure, D.pureL, D.frzL, mFail, mFailS, truD, List.replicate_succ, fLt, fLe, fGt, fGe, tupOf_L]
  · simp [callM, somes, pureOut, finP, CR.nox, mSs, mSeq, mPass, mRetM, mRetN, mMove, mDo, mAsg, mIfS, mFor, mPar, allDt, mAndV, mOrV, mNotV, mBl, mTru, mAnd, mOr, mNot, mIf, mOp1, mOp2, mOpL, mL, mNil, mCons, mVar, mC, mCh, mVal, valA, mFz, mDt, mTup, mLst, mDct0, mCall, mPerm, permA, lentSlots_pure, back_pure, lentSlots_nil, lentSlots_dt, lentSlots_nm, lentAt_nil, lentAt_dt, lentAt_nm, mSl, mPart, mPart0, mItV, mItR1, mItR2, mItE, mMe, mMeEnd, mSto, resA, resAs, ofO, tgt, tgtL, D.frz, D.pure, D.pureL, D.frzL, mFail, mFailS, truD, List.replicate_succ, fLt, fLe, fGt, fGe, d_back_of]
theorem t_back (k : Nat) {n : Nat} {p : List Nat} (h : IsT n p) (h1 : 1 ≤ n) (h2 : n ≤ 24) : fm_back (k + 6) [TN p] = .ok (TN (bk p)) [TN p] := by
  rw [f_back]
  have e1 := t_check_turn k h h1 h2
  have e2 := t_back_of (k + 4) h h2
  simp [callM, somes, pureOut, finP, CR.nox, mSs, mSeq, mPass, mRetM, mRetN, mMove, mDo, mAsg, mIfS, mFor, mPar, allDt, mAndV, mOrV, mNotV, mBl, mTru, mAnd, mOr, mNot, mIf, mOp1, mOp2, mOpL, mL, mNil, mCons, mVar, mC, mCh, mVal, valA, mFz, mDt, mTup, mLst, mDct0, mCall, mPerm, permA, lentSlots_pure, back_pure, lentSlots_nil, lentSlots_dt, lentSlots_nm, lentAt_nil, lentAt_dt, lentAt_nm, mSl, mPart, mPart0, mItV, mItR1, mItR2, mItE, mMe, mMeEnd, mSto, resA, resAs, ofO, tgt, tgtL, D.frz, D.pure, D.pureL, D.frzL, mFail, mFailS, truD, List.replicate_succ, fLt, fLe, fGt, fGe, b_back, d_back, nI_pure, e1, e2]
theorem t_turned_by (k : Nat) {n : Nat} {p q : List Nat} (h : IsT n p) (g : IsT n q) (h1 : 1 ≤ n) (h2 : n ≤ 24) : fm_turned_by (k + 7) [TN p, TN q] = .ok (TN (thn (thn (bk q) p) q)) [TN p, TN q] := by
  rw [f_turned_by]
  have e1 := t_check_both_turns k h g h1 h2
  have e2 := t_back_of (k + 5) g h2
  have e3 := t_then (k + 5) g.bk.lt h.len (by rw [g.bk.len]; omega)
  have e4 := t_then (k + 5) (g.bk.thn h).lt g.len (by rw [(g.bk.thn h).len]; omega)
  simp [callM, somes, pureOut, finP, CR.nox, mSs, mSeq, mPass, mRetM, mRetN, mMove, mDo, mAsg, mIfS, mFor, mPar, allDt, mAndV, mOrV, mNotV, mBl, mTru, mAnd, mOr, mNot, mIf, mOp1, mOp2, mOpL, mL, mNil, mCons, mVar, mC, mCh, mVal, valA, mFz, mDt, mTup, mLst, mDct0, mCall, mPerm, permA, lentSlots_pure, back_pure, lentSlots_nil, lentSlots_dt, lentSlots_nm, lentAt_nil, lentAt_dt, lentAt_nm, mSl, mPart, mPart0, mItV, mItR1, mItR2, mItE, mMe, mMeEnd, mSto, resA, resAs, ofO, tgt, tgtL, D.frz, D.pure, D.pureL, D.frzL, mFail, mFailS, truD, List.replicate_succ, fLt, fLe, fGt, fGe, b_turned_by, d_turned_by, nI_pure, e1, e2, e3, e4]
end Lw

set_option Elab.async false
set_option linter.all false
set_option maxRecDepth 100000
set_option maxHeartbeats 4000000
namespace Lw
open PySem L2 Yv Mt
theorem pMod_nat (a b : Nat) (h : 0 < b) : pMod (.int (a : Int)) (.int (b : Int)) = some (.int ((a % b : Nat) : Int)) := by
  have e : (0 : Int) < b := by omega
  simp only [pMod, e, decide_true, if_true]
  rfl
def mA (δ : Env') : Nat := match δ with
  | some (.int a) :: _ => a.toNat
  | _ => 0
def mB (δ : Env') : Nat := match δ with
  | _ :: some (.int a) :: _ => a.toNat
  | _ => 0
theorem t_common (k a b : Nat) (h : a < 100000) : fm_common (k + 1) [.int a, .int b] = .ok (.int (Nat.gcd a b : Nat)) [.int a, .int b] := by
  rw [f_common]
  obtain ⟨δ', g1, g2⟩ := while_inv (t := mBl (mOp2 pNe (mVar 0) (mC (.int 0)))) (b := mSs [(mPar [] [0, 1] (mL [mDt (mVal (mOp2 pMod (mVar 1) (mVar 0))), mDt (mVal (mVar 0))]))])
    (fun δ => ∃ x y : Nat, δ = [some (.int x), some (.int y)] ∧ Nat.gcd x y = Nat.gcd a b) mA (fun δ => δ = [some (.int 0), some (.int (Nat.gcd a b : Nat))]) (by
      rintro δ ⟨x, y, rfl, e⟩
      by_cases c : x = 0
      · subst c
        refine .inl ⟨[some (.int (0 : Nat)), some (.int y)], by simp [callM, somes, pureOut, finP, CR.nox, mSs, mSeq, mPass, mRetM, mRetN, mMove, mDo, mAsg, mIfS, mFor, mPar, allDt, mAndV, mOrV, mNotV, mBl, mTru, mAnd, mOr, mNot, mIf, mOp1, mOp2, mOpL, mL, mNil, mCons, mVar, mC, mCh, mVal, valA, mFz, mDt, mTup, mLst, mDct0, mCall, mPerm, permA, lentSlots_pure, back_pure, lentSlots_nil, lentSlots_dt, lentSlots_nm, lentAt_nil, lentAt_dt, lentAt_nm, mSl, mPart, mPart0, mItV, mItR1, mItR2, mItE, mMe, mMeEnd, mSto, resA, resAs, ofO, tgt, tgtL, D.frz, D.pure, D.pureL, D.frzL, mFail, mFailS, truD, List.replicate_succ, fLt, fLe, fGt, fGe, pNe_I], ?_⟩
        rw [Nat.gcd_zero_left] at e; simp [e]
      · have q : ¬ ((x : Int) = 0) := by omega
        have e1 := pMod_nat y x (by omega)
        refine .inr ⟨[some (.int x), some (.int y)], [some (.int (y % x : Nat)), some (.int x)], by simp [callM, somes, pureOut, finP, CR.nox, mSs, mSeq, mPass, mRetM, mRetN, mMove, mDo, mAsg, mIfS, mFor, mPar, allDt, mAndV, mOrV, mNotV, mBl, mTru, mAnd, mOr, mNot, mIf, mOp1, mOp2, mOpL, mL, mNil, mCons, mVar, mC, mCh, mVal, valA, mFz, mDt, mTup, mLst, mDct0, mCall, mPerm, permA, lentSlots_pure, back_pure, lentSlots_nil, lentSlots_dt, lentSlots_nm, lentAt_nil, lentAt_dt, lentAt_nm, mSl, mPart, mPart0, mItV, mItR1, mItR2, mItE, mMe, mMeEnd, mSto, resA, resAs, ofO, tgt, tgtL, D.frz, D.pure, D.pureL, D.frzL, mFail, mFailS, truD, List.replicate_succ, fLt, fLe, fGt, fGe, pNe_I, q, c], by simp [callM, somes, pureOut, finP, CR.nox, mSs, mSeq, mPass, mRetM, mRetN, mMove, mDo, mAsg, mIfS, mFor, mPar, allDt, mAndV, mOrV, mNotV, mBl, mTru, mAnd, mOr, mNot, mIf, mOp1, mOp2, mOpL, mL, mNil, mCons, mVar, mC, mCh, mVal, valA, mFz, mDt, mTup, mLst, mDct0, mCall, mPerm, permA, lentSlots_pure, back_pure, lentSlots_nil, lentSlots_dt, lentSlots_nm, lentAt_nil, lentAt_dt, lentAt_nm, mSl, mPart, mPart0, mItV, mItR1, mItR2, mItE, mMe, mMeEnd, mSto, resA, resAs, ofO, tgt, tgtL, D.frz, D.pure, D.pureL, D.frzL, mFail, mFailS, truD, List.replicate_succ, fLt, fLe, fGt, fGe, e1], ⟨_, _, rfl, ?_⟩, ?_⟩
        · rw [← e]; exact (Nat.gcd_rec x y).symm
        · simp only [mA, Int.toNat_natCast]; exact Nat.mod_lt _ (by omega)) 1000000 [some (.int a), some (.int b)] ⟨a, b, rfl, rfl⟩ (by simp only [mA, Int.toNat_natCast]; omega)
  subst g2
  exact run_rt (δ := [some (.int 0), none]) (by simp [callM, somes, pureOut, finP, CR.nox, mSs, mSeq, mPass, mRetM, mRetN, mMove, mDo, mAsg, mIfS, mFor, mPar, allDt, mAndV, mOrV, mNotV, mBl, mTru, mAnd, mOr, mNot, mIf, mOp1, mOp2, mOpL, mL, mNil, mCons, mVar, mC, mCh, mVal, valA, mFz, mDt, mTup, mLst, mDct0, mCall, mPerm, permA, lentSlots_pure, back_pure, lentSlots_nil, lentSlots_dt, lentSlots_nm, lentAt_nil, lentAt_dt, lentAt_nm, mSl, mPart, mPart0, mItV, mItR1, mItR2, mItE, mMe, mMeEnd, mSto, resA, resAs, ofO, tgt, tgtL, D.frz, D.pure, D.pureL, D.frzL, mFail, mFailS, truD, List.replicate_succ, fLt, fLe, fGt, fGe, d_common]) (ss_nx g1 (ss_rt (by simp [callM, somes, pureOut, finP, CR.nox, mSs, mSeq, mPass, mRetM, mRetN, mMove, mDo, mAsg, mIfS, mFor, mPar, allDt, mAndV, mOrV, mNotV, mBl, mTru, mAnd, mOr, mNot, mIf, mOp1, mOp2, mOpL, mL, mNil, mCons, mVar, mC, mCh, mVal, valA, mFz, mDt, mTup, mLst, mDct0, mCall, mPerm, permA, lentSlots_pure, back_pure, lentSlots_nil, lentSlots_dt, lentSlots_nm, lentAt_nil, lentAt_dt, lentAt_nm, mSl, mPart, mPart0, mItV, mItR1, mItR2, mItE, mMe, mMeEnd, mSto, resA, resAs, ofO, tgt, tgtL, D.frz, D.pure, D.pureL, D.frzL, mFail, mFailS, truD, List.replicate_succ, fLt, fLe, fGt, fGe]))) (by simp [callM, somes, pureOut, finP, CR.nox, mSs, mSeq, mPass, mRetM, mRetN, mMove, mDo, mAsg, mIfS, mFor, mPar, allDt, mAndV, mOrV, mNotV, mBl, mTru, mAnd, mOr, mNot, mIf, mOp1, mOp2, mOpL, mL, mNil, mCons, mVar, mC, mCh, mVal, valA, mFz, mDt, mTup, mLst, mDct0, mCall, mPerm, permA, lentSlots_pure, back_pure, lentSlots_nil, lentSlots_dt, lentSlots_nm, lentAt_nil, lentAt_dt, lentAt_nm, mSl, mPart, mPart0, mItV, mItR1, mItR2, mItE, mMe, mMeEnd, mSto, resA, resAs, ofO, tgt, tgtL, D.frz, D.pure, D.pureL, D.frzL, mFail, mFailS, truD, List.replicate_succ, fLt, fLe, fGt, fGe, d_common])
theorem t__law_common (k a b : Nat) (h : b < 100000) : fm__law_common (k + 1) [.int a, .int b] = .ok (.int (Nat.gcd a b : Nat)) [.int a, .int b] := by
  rw [f__law_common]
  obtain ⟨δ', g1, g2⟩ := while_inv (t := mBl (mOp2 pNe (mVar 1) (mC (.int 0)))) (b := mSs [(mPar [] [0, 1] (mL [mDt (mVal (mVar 1)), mDt (mVal (mOp2 pMod (mVar 0) (mVar 1)))]))])
    (fun δ => ∃ x y : Nat, δ = [some (.int x), some (.int y)] ∧ Nat.gcd x y = Nat.gcd a b) mB (fun δ => δ = [some (.int (Nat.gcd a b : Nat)), some (.int 0)]) (by
      rintro δ ⟨x, y, rfl, e⟩
      by_cases c : y = 0
      · subst c
        refine .inl ⟨[some (.int x), some (.int (0 : Nat))], by simp [callM, somes, pureOut, finP, CR.nox, mSs, mSeq, mPass, mRetM, mRetN, mMove, mDo, mAsg, mIfS, mFor, mPar, allDt, mAndV, mOrV, mNotV, mBl, mTru, mAnd, mOr, mNot, mIf, mOp1, mOp2, mOpL, mL, mNil, mCons, mVar, mC, mCh, mVal, valA, mFz, mDt, mTup, mLst, mDct0, mCall, mPerm, permA, lentSlots_pure, back_pure, lentSlots_nil, lentSlots_dt, lentSlots_nm, lentAt_nil, lentAt_dt, lentAt_nm, mSl, mPart, mPart0, mItV, mItR1, mItR2, mItE, mMe, mMeEnd, mSto, resA, resAs, ofO, tgt, tgtL, D.frz, D.pure, D.pureL, D.frzL, mFail, mFailS, truD, List.replicate_succ, fLt, fLe, fGt, fGe, pNe_I], ?_⟩
        rw [Nat.gcd_zero_right] at e; simp [e]
      · have q : ¬ ((y : Int) = 0) := by omega
        have e1 := pMod_nat x y (by omega)
        refine .inr ⟨[some (.int x), some (.int y)], [some (.int y), some (.int (x % y : Nat))], by simp [callM, somes, pureOut, finP, CR.nox, mSs, mSeq, mPass, mRetM, mRetN, mMove, mDo, mAsg, mIfS, mFor, mPar, allDt, mAndV, mOrV, mNotV, mBl, mTru, mAnd, mOr, mNot, mIf, mOp1, mOp2, mOpL, mL, mNil, mCons, mVar, mC, mCh, mVal, valA, mFz, mDt, mTup, mLst, mDct0, mCall, mPerm, permA, lentSlots_pure, back_pure, lentSlots_nil, lentSlots_dt, lentSlots_nm, lentAt_nil, lentAt_dt, lentAt_nm, mSl, mPart, mPart0, mItV, mItR1, mItR2, mItE, mMe, mMeEnd, mSto, resA, resAs, ofO, tgt, tgtL, D.frz, D.pure, D.pureL, D.frzL, mFail, mFailS, truD, List.replicate_succ, fLt, fLe, fGt, fGe, pNe_I, q, c], by simp [callM, somes, pureOut, finP, CR.nox, mSs, mSeq, mPass, mRetM, mRetN, mMove, mDo, mAsg, mIfS, mFor, mPar, allDt, mAndV, mOrV, mNotV, mBl, mTru, mAnd, mOr, mNot, mIf, mOp1, mOp2, mOpL, mL, mNil, mCons, mVar, mC, mCh, mVal, valA, mFz, mDt, mTup, mLst, mDct0, mCall, mPerm, permA, lentSlots_pure, back_pure, lentSlots_nil, lentSlots_dt, lentSlots_nm, lentAt_nil, lentAt_dt, lentAt_nm, mSl, mPart, mPart0, mItV, mItR1, mItR2, mItE, mMe, mMeEnd, mSto, resA, resAs, ofO, tgt, tgtL, D.frz, D.pure, D.pureL, D.frzL, mFail, mFailS, truD, List.replicate_succ, fLt, fLe, fGt, fGe, e1], ⟨_, _, rfl, ?_⟩, ?_⟩
        · rw [← e, Nat.gcd_comm x y, Nat.gcd_rec y x, Nat.gcd_comm]
        · simp only [mB, Int.toNat_natCast]; exact Nat.mod_lt _ (by omega)) 1000000 [some (.int a), some (.int b)] ⟨a, b, rfl, rfl⟩ (by simp only [mB, Int.toNat_natCast]; omega)
  subst g2
  exact run_rt (δ := [none, some (.int 0)]) (by simp [callM, somes, pureOut, finP, CR.nox, mSs, mSeq, mPass, mRetM, mRetN, mMove, mDo, mAsg, mIfS, mFor, mPar, allDt, mAndV, mOrV, mNotV, mBl, mTru, mAnd, mOr, mNot, mIf, mOp1, mOp2, mOpL, mL, mNil, mCons, mVar, mC, mCh, mVal, valA, mFz, mDt, mTup, mLst, mDct0, mCall, mPerm, permA, lentSlots_pure, back_pure, lentSlots_nil, lentSlots_dt, lentSlots_nm, lentAt_nil, lentAt_dt, lentAt_nm, mSl, mPart, mPart0, mItV, mItR1, mItR2, mItE, mMe, mMeEnd, mSto, resA, resAs, ofO, tgt, tgtL, D.frz, D.pure, D.pureL, D.frzL, mFail, mFailS, truD, List.replicate_succ, fLt, fLe, fGt, fGe, d__law_common]) (ss_nx g1 (ss_rt (by simp [callM, somes, pureOut, finP, CR.nox, mSs, mSeq, mPass, mRetM, mRetN, mMove, mDo, mAsg, mIfS, mFor, mPar, allDt, mAndV, mOrV, mNotV, mBl, mTru, mAnd, mOr, mNot, mIf, mOp1, mOp2, mOpL, mL, mNil, mCons, mVar, mC, mCh, mVal, valA, mFz, mDt, mTup, mLst, mDct0, mCall, mPerm, permA, lentSlots_pure, back_pure, lentSlots_nil, lentSlots_dt, lentSlots_nm, lentAt_nil, lentAt_dt, lentAt_nm, mSl, mPart, mPart0, mItV, mItR1, mItR2, mItE, mMe, mMeEnd, mSto, resA, resAs, ofO, tgt, tgtL, D.frz, D.pure, D.pureL, D.frzL, mFail, mFailS, truD, List.replicate_succ, fLt, fLe, fGt, fGe]))) (by simp [callM, somes, pureOut, finP, CR.nox, mSs, mSeq, mPass, mRetM, mRetN, mMove, mDo, mAsg, mIfS, mFor, mPar, allDt, mAndV, mOrV, mNotV, mBl, mTru, mAnd, mOr, mNot, mIf, mOp1, mOp2, mOpL, mL, mNil, mCons, mVar, mC, mCh, mVal, valA, mFz, mDt, mTup, mLst, mDct0, mCall, mPerm, permA, lentSlots_pure, back_pure, lentSlots_nil, lentSlots_dt, lentSlots_nm, lentAt_nil, lentAt_dt, lentAt_nm, mSl, mPart, mPart0, mItV, mItR1, mItR2, mItE, mMe, mMeEnd, mSto, resA, resAs, ofO, tgt, tgtL, D.frz, D.pure, D.pureL, D.frzL, mFail, mFailS, truD, List.replicate_succ, fLt, fLe, fGt, fGe, d__law_common])
end Lw

set_option Elab.async false
set_option linter.all false
set_option maxRecDepth 100000
set_option maxHeartbeats 4000000
namespace Lw
open PySem L2 Yv Mt
theorem app_L (l : List Nat) (y : Nat) (h : l.length ≤ 1000) : pAppend (LS true l) [.int (y : Int)] = some (some (LS true (l ++ [y])), .non) := by
  have e : (D.pureL (nI l) && (Yv.D.int (y : Int)).pure && Yv.sizeOk (nI l).length) = true := by
    rw [nI_pure, nI_len]; simp only [D.pure, Bool.and_self, Bool.true_and, Yv.sizeOk, decide_eq_true_eq]; omega
  show (if (D.pureL (nI l) && (Yv.D.int (y : Int)).pure && Yv.sizeOk (nI l).length) = true then some (some (Yv.D.lst true (nI l ++ [.int (y : Int)])), Yv.D.non) else none) = _
  rw [if_pos e]; show _ = some (some (Yv.D.lst true (nI (l ++ [y]))), Yv.D.non); rw [nI_append]; rfl
/-- the first j of those that come from a -/
def oj (p : List Nat) (a j : Nat) : List Nat := (List.range j).map fun i => it p i a
theorem oj_len (p : List Nat) (a j : Nat) : (oj p a j).length = j := by simp [oj]
theorem oj_succ (p : List Nat) (a j : Nat) : oj p a (j + 1) = oj p a j ++ [it p j a] := by simp [oj, List.range_succ]
theorem oj_at (p : List Nat) (a : Nat) {i j : Nat} (h : i < j) : ap (oj p a j) i = it p i a := by rw [ap_eq (by rw [oj_len]; exact h)]; simp [oj]
theorem oj_orb (n : Nat) (p : List Nat) (a : Nat) : oj p a (per n p a) = orb n p a := rfl
theorem mark (b : Bool) : (some (Yv.D.bl b)) = some (.bl b) := rfl
def mL4 (δ : Env') : Nat := match δ with
  | _ :: _ :: _ :: _ :: some (.lst _ l) :: _ => 1000 - l.length
  | _ => 0
theorem ri_while {n : Nat} {p : List Nat} (h : IsT n p) (h2 : n ≤ 24) {a : Nat} (ha : a < n) {kvs : List (Ky × Yv.D)} {S : List Nat} {m : Nat} (hS : Seen kvs S m) (L : Yv.D) :
    mWhile (mAnd (mBl (mOp2 pNe (mOp2 pIx (mVar 0) (mOp2 pIx (mVar 4) (mOp1 pNeg (mC (.int 1))))) (mVar 3))) (mBl (mOp2 pNotIn (mVar 3) (mVar 2)))) (mSs [(mDo (mMe "list" "list" pAppend pAppend (mVar 4) (mL [mFz (mOp2 pIx (mVar 0) (mOp2 pIx (mVar 4) (mOp1 pNeg (mC (.int 1)))))])))]) 1000000
      [some (TN p), some L, some (.dct true kvs), some (.int a), some (LS true [a]), none] = .nx [some (TN p), some L, some (.dct true kvs), some (.int a), some (LS true (if a ∈ S then [a] else orb n p a)), none] := by
  obtain ⟨k1, k2, k3, k4⟩ := h.per_ok ha
  have en := seen_in hS true a
  obtain ⟨δ', g1, g2⟩ := while_inv (t := (mAnd (mBl (mOp2 pNe (mOp2 pIx (mVar 0) (mOp2 pIx (mVar 4) (mOp1 pNeg (mC (.int 1))))) (mVar 3))) (mBl (mOp2 pNotIn (mVar 3) (mVar 2)))))
    (b := (mSs [(mDo (mMe "list" "list" pAppend pAppend (mVar 4) (mL [mFz (mOp2 pIx (mVar 0) (mOp2 pIx (mVar 4) (mOp1 pNeg (mC (.int 1)))))])))]))
    (fun δ => ∃ j, 1 ≤ j ∧ j ≤ per n p a ∧ (a ∈ S → j = 1) ∧ δ = [some (TN p), some L, some (.dct true kvs), some (.int a), some (LS true (oj p a j)), none]) mL4
    (fun δ => δ = [some (TN p), some L, some (.dct true kvs), some (.int a), some (LS true (if a ∈ S then [a] else orb n p a)), none]) (by
      rintro δ ⟨j, j1, j2, j3, rfl⟩
      have hne : oj p a j ≠ [] := fun e => by have := oj_len p a j; rw [e] at this; simp at this; omega
      have e1 : pIx (LS true (oj p a j)) (.int (-1)) = some (.int (it p (j - 1) a : Nat)) := by rw [pIx_last hne, oj_len, oj_at p a (by omega)]
      have e2 : pIx (TN p) (.int (it p (j - 1) a : Nat)) = some (.int (it p j a : Nat)) := by
        rw [pIx_T (by rw [h.len]; exact h.it_lt ha _)]
        have : j = j - 1 + 1 := by omega
        conv => rhs; rw [this]
        rfl
      have e3 := pNe_N (it p j a) a
      have e4 := app_L (oj p a j) (it p j a) (by rw [oj_len]; omega)
      by_cases c : it p j a = a
      · have ej : j = per n p a := Classical.byContradiction fun z => k4 j (by omega) (by omega) c
        rw [c] at e3
        rw [c] at e2
        refine .inl ⟨[some (TN p), some L, some (.dct true kvs), some (.int a), some (LS true (oj p a j)), none], by simp [callM, somes, pureOut, finP, CR.nox, mSs, mSeq, mPass, mRetM, mRetN, mMove, mDo, mAsg, mIfS, mFor, mPar, allDt, mAndV, mOrV, mNotV, mBl, mTru, mAnd, mOr, mNot, mIf, mOp1, mOp2, mOpL, mL, mNil, mCons, mVar, mC, mCh, mVal, valA, mFz, mDt, mTup, mLst, mDct0, mCall, mPerm, permA, lentSlots_pure, back_pure, lentSlots_nil, lentSlots_dt, lentSlots_nm, lentAt_nil, lentAt_dt, lentAt_nm, mSl, mPart, mPart0, mItV, mItR1, mItR2, mItE, mMe, mMeEnd, mSto, resA, resAs, ofO, tgt, tgtL, D.frz, D.pure, D.pureL, D.frzL, mFail, mFailS, truD, List.replicate_succ, fLt, fLe, fGt, fGe, pNeg, e1, e2, e3], ?_⟩
        by_cases cs : a ∈ S
        · rw [if_pos cs]; have := j3 cs; subst this; rfl
        · rw [if_neg cs, ej]; rfl
      · by_cases cs : a ∈ S
        · have := j3 cs; subst this
          refine .inl ⟨[some (TN p), some L, some (.dct true kvs), some (.int a), some (LS true (oj p a 1)), none], by simp [callM, somes, pureOut, finP, CR.nox, mSs, mSeq, mPass, mRetM, mRetN, mMove, mDo, mAsg, mIfS, mFor, mPar, allDt, mAndV, mOrV, mNotV, mBl, mTru, mAnd, mOr, mNot, mIf, mOp1, mOp2, mOpL, mL, mNil, mCons, mVar, mC, mCh, mVal, valA, mFz, mDt, mTup, mLst, mDct0, mCall, mPerm, permA, lentSlots_pure, back_pure, lentSlots_nil, lentSlots_dt, lentSlots_nm, lentAt_nil, lentAt_dt, lentAt_nm, mSl, mPart, mPart0, mItV, mItR1, mItR2, mItE, mMe, mMeEnd, mSto, resA, resAs, ofO, tgt, tgtL, D.frz, D.pure, D.pureL, D.frzL, mFail, mFailS, truD, List.replicate_succ, fLt, fLe, fGt, fGe, pNeg, e1, e2, e3, c, en, cs], ?_⟩
          rw [if_pos cs]; rfl
        · refine .inr ⟨[some (TN p), some L, some (.dct true kvs), some (.int a), some (LS true (oj p a j)), none], [some (TN p), some L, some (.dct true kvs), some (.int a), some (LS true (oj p a (j + 1))), none], by simp [callM, somes, pureOut, finP, CR.nox, mSs, mSeq, mPass, mRetM, mRetN, mMove, mDo, mAsg, mIfS, mFor, mPar, allDt, mAndV, mOrV, mNotV, mBl, mTru, mAnd, mOr, mNot, mIf, mOp1, mOp2, mOpL, mL, mNil, mCons, mVar, mC, mCh, mVal, valA, mFz, mDt, mTup, mLst, mDct0, mCall, mPerm, permA, lentSlots_pure, back_pure, lentSlots_nil, lentSlots_dt, lentSlots_nm, lentAt_nil, lentAt_dt, lentAt_nm, mSl, mPart, mPart0, mItV, mItR1, mItR2, mItE, mMe, mMeEnd, mSto, resA, resAs, ofO, tgt, tgtL, D.frz, D.pure, D.pureL, D.frzL, mFail, mFailS, truD, List.replicate_succ, fLt, fLe, fGt, fGe, pNeg, e1, e2, e3, c, en, cs], by rw [oj_succ]; simp [callM, somes, pureOut, finP, CR.nox, mSs, mSeq, mPass, mRetM, mRetN, mMove, mDo, mAsg, mIfS, mFor, mPar, allDt, mAndV, mOrV, mNotV, mBl, mTru, mAnd, mOr, mNot, mIf, mOp1, mOp2, mOpL, mL, mNil, mCons, mVar, mC, mCh, mVal, valA, mFz, mDt, mTup, mLst, mDct0, mCall, mPerm, permA, lentSlots_pure, back_pure, lentSlots_nil, lentSlots_dt, lentSlots_nm, lentAt_nil, lentAt_dt, lentAt_nm, mSl, mPart, mPart0, mItV, mItR1, mItR2, mItE, mMe, mMeEnd, mSto, resA, resAs, ofO, tgt, tgtL, D.frz, D.pure, D.pureL, D.frzL, mFail, mFailS, truD, List.replicate_succ, fLt, fLe, fGt, fGe, pNeg, e1, e2, e4, tyM], ?_, ?_⟩
          · refine ⟨j + 1, by omega, ?_, fun z => absurd z cs, rfl⟩
            rcases Nat.lt_or_ge j (per n p a) with q | q
            · omega
            · have : j = per n p a := by omega
              rw [this] at c; exact absurd k3 c
          · simp only [mL4, nI_len, oj_len]; omega)
    1000000 [some (TN p), some L, some (.dct true kvs), some (.int a), some (LS true [a]), none] ⟨1, by omega, k1, fun _ => rfl, rfl⟩ (by simp only [mL4, nI_len, List.length_cons, List.length_nil]; omega)
  rw [g1, g2]
end Lw

set_option Elab.async false
set_option linter.all false
set_option maxRecDepth 100000
set_option maxHeartbeats 4000000
namespace Lw
open PySem L2 Yv Mt
theorem rg1_nat (n : Nat) (h : n ≤ 1000000) : rg1 [.int (n : Int)] = some (n : Int) := by
  show (if small (n : Int) then some (n : Int) else none) = _
  rw [small_nat n h]; rfl
abbrev LR (o : Bool) (R : List (List Nat)) : Yv.D := .lst o (R.map fun r => TN r)
theorem LR_pure (R : List (List Nat)) : D.pureL (R.map fun r => TN r) = true := pureL_map _ _ fun r _ => TP_pure r
theorem app_R (R : List (List Nat)) (r : List Nat) (h : R.length ≤ 1000) : pAppend (LR true R) [TN r] = some (some (LR true (R ++ [r])), .non) := by
  have e : (D.pureL (R.map fun r => TN r) && (TN r).pure && Yv.sizeOk (R.map fun r => TN r).length) = true := by
    rw [LR_pure, TP_pure]; simp only [Bool.and_self, Bool.true_and, Yv.sizeOk, decide_eq_true_eq, List.length_map]; omega
  show (if (D.pureL (R.map fun r => TN r) && (TN r).pure && Yv.sizeOk (R.map fun r => TN r).length) = true then some (some (Yv.D.lst true ((R.map fun r => TN r) ++ [TN r])), Yv.D.non) else none) = _
  rw [if_pos e]; simp
def prD : Yv.D → Yv.D := fun d => .tup [d, .bl true]
theorem prD_map (l : List Nat) : (nI l).map prD = l.map fun (x : Nat) => Yv.D.tup [.int (x : Int), .bl true] := by simp [nI, prD]
theorem t_rounds_in (k : Nat) {n : Nat} {p : List Nat} (h : IsT n p) (h2 : n ≤ 24) : fm_rounds_in (k + 1) [TN p] = .ok (LR true (rds n p)) [TN p] := by
  rw [f_rounds_in]
  have er := rg1_nat n (by omega)
  unfold b_rounds_in
  generalize hb : (mSs [(mAsg [0] (.nm 4) (mLst (mL [mFz (mVar 3)]))), _, _, _] : Ms) = body
  obtain ⟨δ', g1, g2⟩ := for_inv (P := [0]) (mi := mItR1 (mL [(mOpL pLen (mL [(mVar 0)]))])) (t := .nm 3) (b := body) (δ := [some (TN p), some (LR true []), some (.dct true []), none, none, none]) (δ1 := [some (TN p), some (LR true []), some (.dct true []), none, none, none]) (ds := nI (List.range n))
    (fun i δ => ∃ R S kvs x3 x4, δ = [some (TN p), some (LR true R), some (.dct true kvs), x3, x4, none] ∧ Seen kvs S (24 * i) ∧ R.length ≤ i ∧ R ++ rdsF n p (List.range' i (n - i)) S = rds n p)
    (by simp [callM, somes, pureOut, finP, CR.nox, mSs, mSeq, mPass, mRetM, mRetN, mMove, mDo, mAsg, mIfS, mFor, mPar, allDt, mAndV, mOrV, mNotV, mBl, mTru, mAnd, mOr, mNot, mIf, mOp1, mOp2, mOpL, mL, mNil, mCons, mVar, mC, mCh, mVal, valA, mFz, mDt, mTup, mLst, mDct0, mCall, mPerm, permA, lentSlots_pure, back_pure, lentSlots_nil, lentSlots_dt, lentSlots_nm, lentAt_nil, lentAt_dt, lentAt_nm, mSl, mPart, mPart0, mItV, mItR1, mItR2, mItE, mMe, mMeEnd, mSto, resA, resAs, ofO, tgt, tgtL, D.frz, D.pure, D.pureL, D.frzL, mFail, mFailS, truD, List.replicate_succ, fLt, fLe, fGt, fGe, pLen, lenD, nI_len, h.len, er, intsD_eq])
    ⟨[], [], [], none, none, rfl, seen_nil, Nat.le_refl _, by rw [Nat.sub_zero, ← List.range_eq_range']; rfl⟩ (by
      rintro i d δ w ⟨R, S, kvs, x3, x4, rfl, hS, hR, hE⟩
      have hi : i < n := by have := (List.getElem?_eq_some_iff.mp w).1; rw [nI_len] at this; simpa using this
      have hd : d = .int (i : Int) := by rw [nI_at (by simpa using hi)] at w; simpa using w.symm
      subst hd
      have wl := ri_while h h2 hi hS (LR true R)
      have en := seen_in hS true i
      have ho : (if i ∈ S then [i] else orb n p i).length ≤ 24 := by
        split
        · simp
        · rw [orb_len]; have := (h.per_ok hi).2.1; omega
      obtain ⟨kvs', u1, u2⟩ := seen_up hS (if i ∈ S then [i] else orb n p i) (T := if i ∈ S then S else S ++ orb n p i) (by omega) (by
        intro x; split
        · rename_i c; simp; intro q; subst q; exact c
        · simp)
      have ds := dict_set true (if i ∈ S then [i] else orb n p i)
      have e : List.range' i (n - i) = i :: List.range' (i + 1) (n - (i + 1)) := by
        rw [show n - i = (n - (i + 1)) + 1 by omega, List.range'_succ]
      rw [e, rdsF] at hE
      have hR' : ∃ R', R'.length ≤ i + 1 ∧ R' ++ rdsF n p (List.range' (i + 1) (n - (i + 1))) (if i ∈ S then S else S ++ orb n p i) = rds n p ∧ R' = if i ∈ S then R else if 1 < (orb n p i).length then R ++ [orb n p i] else R := by
        refine ⟨_, ?_, ?_, rfl⟩
        · split
          · omega
          · split
            · simp; omega
            · omega
        · by_cases c : i ∈ S
          · simp only [c, if_true] at hE ⊢; exact hE
          · by_cases c2 : 1 < (orb n p i).length
            · simp only [c, c2, if_true, if_false] at hE ⊢; simpa using hE
            · simp only [c, c2, if_true, if_false] at hE ⊢; simpa using hE
      obtain ⟨R', r1, r2, r3⟩ := hR'
      refine ⟨[some (TN p), some (LR true R), some (.dct true kvs), some (.int (i : Int)), x4, none], [some (TN p), some (LR true R'), some (.dct true kvs'), some (.int (i : Int)), some (LS false (if i ∈ S then [i] else orb n p i)), none], by simp [callM, somes, pureOut, finP, CR.nox, mSs, mSeq, mPass, mRetM, mRetN, mMove, mDo, mAsg, mIfS, mFor, mPar, allDt, mAndV, mOrV, mNotV, mBl, mTru, mAnd, mOr, mNot, mIf, mOp1, mOp2, mOpL, mL, mNil, mCons, mVar, mC, mCh, mVal, valA, mFz, mDt, mTup, mLst, mDct0, mCall, mPerm, permA, lentSlots_pure, back_pure, lentSlots_nil, lentSlots_dt, lentSlots_nm, lentAt_nil, lentAt_dt, lentAt_nm, mSl, mPart, mPart0, mItV, mItR1, mItR2, mItE, mMe, mMeEnd, mSto, resA, resAs, ofO, tgt, tgtL, D.frz, D.pure, D.pureL, D.frzL, mFail, mFailS, truD, List.replicate_succ, fLt, fLe, fGt, fGe], ?_, R', _, kvs', _, _, rfl, ?_, r1, r2⟩
      · subst hb
        refine ss_nx (δ1 := [some (TN p), some (LR true R), some (.dct true kvs), some (.int (i : Int)), some (LS true [i]), none]) (by simp [callM, somes, pureOut, finP, CR.nox, mSs, mSeq, mPass, mRetM, mRetN, mMove, mDo, mAsg, mIfS, mFor, mPar, allDt, mAndV, mOrV, mNotV, mBl, mTru, mAnd, mOr, mNot, mIf, mOp1, mOp2, mOpL, mL, mNil, mCons, mVar, mC, mCh, mVal, valA, mFz, mDt, mTup, mLst, mDct0, mCall, mPerm, permA, lentSlots_pure, back_pure, lentSlots_nil, lentSlots_dt, lentSlots_nm, lentAt_nil, lentAt_dt, lentAt_nm, mSl, mPart, mPart0, mItV, mItR1, mItR2, mItE, mMe, mMeEnd, mSto, resA, resAs, ofO, tgt, tgtL, D.frz, D.pure, D.pureL, D.frzL, mFail, mFailS, truD, List.replicate_succ, fLt, fLe, fGt, fGe, Yv.sizeOk, nI]) (ss_nx wl (ss_nx (δ1 := [some (TN p), some (LR true R'), some (.dct true kvs), some (.int (i : Int)), some (LS true (if i ∈ S then [i] else orb n p i)), none]) ?_ ?_))
        · by_cases c : i ∈ S
          · rw [if_pos c] at r3; subst r3
            simp [callM, somes, pureOut, finP, CR.nox, mSs, mSeq, mPass, mRetM, mRetN, mMove, mDo, mAsg, mIfS, mFor, mPar, allDt, mAndV, mOrV, mNotV, mBl, mTru, mAnd, mOr, mNot, mIf, mOp1, mOp2, mOpL, mL, mNil, mCons, mVar, mC, mCh, mVal, valA, mFz, mDt, mTup, mLst, mDct0, mCall, mPerm, permA, lentSlots_pure, back_pure, lentSlots_nil, lentSlots_dt, lentSlots_nm, lentAt_nil, lentAt_dt, lentAt_nm, mSl, mPart, mPart0, mItV, mItR1, mItR2, mItE, mMe, mMeEnd, mSto, resA, resAs, ofO, tgt, tgtL, D.frz, D.pure, D.pureL, D.frzL, mFail, mFailS, truD, List.replicate_succ, fLt, fLe, fGt, fGe, en, c]
          · rw [if_neg c] at r3
            by_cases c2 : 1 < (orb n p i).length
            · rw [if_pos c2] at r3; subst r3
              have ea := app_R R (orb n p i) (by omega)
              have c3 : (1 : Int) < ((orb n p i).length : Nat) := by omega
              simp [callM, somes, pureOut, finP, CR.nox, mSs, mSeq, mPass, mRetM, mRetN, mMove, mDo, mAsg, mIfS, mFor, mPar, allDt, mAndV, mOrV, mNotV, mBl, mTru, mAnd, mOr, mNot, mIf, mOp1, mOp2, mOpL, mL, mNil, mCons, mVar, mC, mCh, mVal, valA, mFz, mDt, mTup, mLst, mDct0, mCall, mPerm, permA, lentSlots_pure, back_pure, lentSlots_nil, lentSlots_dt, lentSlots_nm, lentAt_nil, lentAt_dt, lentAt_nm, mSl, mPart, mPart0, mItV, mItR1, mItR2, mItE, mMe, mMeEnd, mSto, resA, resAs, ofO, tgt, tgtL, D.frz, D.pure, D.pureL, D.frzL, mFail, mFailS, truD, List.replicate_succ, fLt, fLe, fGt, fGe, en, c, pLen_L, pOrd, c2, c3, tupOf_L, ea, tyM, nI_frz]
            · rw [if_neg c2] at r3; subst r3
              have c3 : ¬ (1 : Int) < ((orb n p i).length : Nat) := by omega
              simp [callM, somes, pureOut, finP, CR.nox, mSs, mSeq, mPass, mRetM, mRetN, mMove, mDo, mAsg, mIfS, mFor, mPar, allDt, mAndV, mOrV, mNotV, mBl, mTru, mAnd, mOr, mNot, mIf, mOp1, mOp2, mOpL, mL, mNil, mCons, mVar, mC, mCh, mVal, valA, mFz, mDt, mTup, mLst, mDct0, mCall, mPerm, permA, lentSlots_pure, back_pure, lentSlots_nil, lentSlots_dt, lentSlots_nm, lentAt_nil, lentAt_dt, lentAt_nm, mSl, mPart, mPart0, mItV, mItR1, mItR2, mItE, mMe, mMeEnd, mSto, resA, resAs, ofO, tgt, tgtL, D.frz, D.pure, D.pureL, D.frzL, mFail, mFailS, truD, List.replicate_succ, fLt, fLe, fGt, fGe, en, c, pLen_L, pOrd, c2, c3]
        · generalize (if i ∈ S then [i] else orb n p i) = one at *
          have lc := lc_map (mi := mItV (mVar 4)) (t := .nm 5) (tt := mYes) (te := mTup (mL [mFz (mVar 5), mFz (mC (.bl true))])) (vs := [5])
            (δ := [some (TN p), some (LR true R'), some (.dct true kvs), some (.int (i : Int)), some (LS true one), none]) (δ1 := [some (TN p), some (LR true R'), some (.dct true kvs), some (.int (i : Int)), some (LS false one), none]) (ds := nI one) prD
            (by simp [callM, somes, pureOut, finP, CR.nox, mSs, mSeq, mPass, mRetM, mRetN, mMove, mDo, mAsg, mIfS, mFor, mPar, allDt, mAndV, mOrV, mNotV, mBl, mTru, mAnd, mOr, mNot, mIf, mOp1, mOp2, mOpL, mL, mNil, mCons, mVar, mC, mCh, mVal, valA, mFz, mDt, mTup, mLst, mDct0, mCall, mPerm, permA, lentSlots_pure, back_pure, lentSlots_nil, lentSlots_dt, lentSlots_nm, lentAt_nil, lentAt_dt, lentAt_nm, mSl, mPart, mPart0, mItV, mItR1, mItR2, mItE, mMe, mMeEnd, mSto, resA, resAs, ofO, tgt, tgtL, D.frz, D.pure, D.pureL, D.frzL, mFail, mFailS, truD, List.replicate_succ, fLt, fLe, fGt, fGe, nI_frz, nI_pure, itF]) rfl (by rw [nI_len]; omega) (fun d m => by
              obtain ⟨x, mx, rfl⟩ := nI_mem m
              simp [callM, somes, pureOut, finP, CR.nox, mSs, mSeq, mPass, mRetM, mRetN, mMove, mDo, mAsg, mIfS, mFor, mPar, allDt, mAndV, mOrV, mNotV, mBl, mTru, mAnd, mOr, mNot, mIf, mOp1, mOp2, mOpL, mL, mNil, mCons, mVar, mC, mCh, mVal, valA, mFz, mDt, mTup, mLst, mDct0, mCall, mPerm, permA, lentSlots_pure, back_pure, lentSlots_nil, lentSlots_dt, lentSlots_nm, lentAt_nil, lentAt_dt, lentAt_nm, mSl, mPart, mPart0, mItV, mItR1, mItR2, mItE, mMe, mMeEnd, mSto, resA, resAs, ofO, tgt, tgtL, D.frz, D.pure, D.pureL, D.frzL, mFail, mFailS, truD, List.replicate_succ, fLt, fLe, fGt, fGe, lcStep, others, wipeD, backD, mYes, List.range_succ, nI_frz, prD, Yv.sizeOk])
          rw [prD_map] at lc
          simp only [mL] at lc
          have gp : D.frzK (mergeY [] (setK one)) = mergeY [] (setK one) := frzK_of_pure (good_merge _ _ ⟨rfl, rfl⟩ (good_setK one)).2
          simp [callM, somes, pureOut, finP, CR.nox, mSs, mSeq, mPass, mRetM, mRetN, mMove, mDo, mAsg, mIfS, mFor, mPar, allDt, mAndV, mOrV, mNotV, mBl, mTru, mAnd, mOr, mNot, mIf, mOp1, mOp2, mOpL, mL, mNil, mCons, mVar, mC, mCh, mVal, valA, mFz, mDt, mTup, mLst, mDct0, mCall, mPerm, permA, lentSlots_pure, back_pure, lentSlots_nil, lentSlots_dt, lentSlots_nm, lentAt_nil, lentAt_dt, lentAt_nm, mSl, mPart, mPart0, mItV, mItR1, mItR2, mItE, mMe, mMeEnd, mSto, resA, resAs, ofO, tgt, tgtL, D.frz, D.pure, D.pureL, D.frzL, mFail, mFailS, truD, List.replicate_succ, fLt, fLe, fGt, fGe, lc, ds, gp, u1, tyM]
      · exact ⟨u2.good, by have := u2.len; omega, u2.has⟩)
  obtain ⟨R, S, kvs, x3, x4, rfl, _, _, hE⟩ := g2
  rw [nI_len, List.length_range, Nat.sub_self] at hE
  simp only [List.range'_zero, rdsF, List.append_nil] at hE
  subst hE
  refine run_rt (δ := [some (TN p), none, some (.dct true kvs), x3, x4, none]) (by simp [callM, somes, pureOut, finP, CR.nox, mSs, mSeq, mPass, mRetM, mRetN, mMove, mDo, mAsg, mIfS, mFor, mPar, allDt, mAndV, mOrV, mNotV, mBl, mTru, mAnd, mOr, mNot, mIf, mOp1, mOp2, mOpL, mL, mNil, mCons, mVar, mC, mCh, mVal, valA, mFz, mDt, mTup, mLst, mDct0, mCall, mPerm, permA, lentSlots_pure, back_pure, lentSlots_nil, lentSlots_dt, lentSlots_nm, lentAt_nil, lentAt_dt, lentAt_nm, mSl, mPart, mPart0, mItV, mItR1, mItR2, mItE, mMe, mMeEnd, mSto, resA, resAs, ofO, tgt, tgtL, D.frz, D.pure, D.pureL, D.frzL, mFail, mFailS, truD, List.replicate_succ, fLt, fLe, fGt, fGe, d_rounds_in, nI_pure]) (ss_nx (δ1 := [some (TN p), some (LR true []), some (.dct true []), none, none, none]) (by simp [callM, somes, pureOut, finP, CR.nox, mSs, mSeq, mPass, mRetM, mRetN, mMove, mDo, mAsg, mIfS, mFor, mPar, allDt, mAndV, mOrV, mNotV, mBl, mTru, mAnd, mOr, mNot, mIf, mOp1, mOp2, mOpL, mL, mNil, mCons, mVar, mC, mCh, mVal, valA, mFz, mDt, mTup, mLst, mDct0, mCall, mPerm, permA, lentSlots_pure, back_pure, lentSlots_nil, lentSlots_dt, lentSlots_nm, lentAt_nil, lentAt_dt, lentAt_nm, mSl, mPart, mPart0, mItV, mItR1, mItR2, mItE, mMe, mMeEnd, mSto, resA, resAs, ofO, tgt, tgtL, D.frz, D.pure, D.pureL, D.frzL, mFail, mFailS, truD, List.replicate_succ, fLt, fLe, fGt, fGe, d_rounds_in, Yv.sizeOk]) (ss_nx g1 (ss_rt (by simp [callM, somes, pureOut, finP, CR.nox, mSs, mSeq, mPass, mRetM, mRetN, mMove, mDo, mAsg, mIfS, mFor, mPar, allDt, mAndV, mOrV, mNotV, mBl, mTru, mAnd, mOr, mNot, mIf, mOp1, mOp2, mOpL, mL, mNil, mCons, mVar, mC, mCh, mVal, valA, mFz, mDt, mTup, mLst, mDct0, mCall, mPerm, permA, lentSlots_pure, back_pure, lentSlots_nil, lentSlots_dt, lentSlots_nm, lentAt_nil, lentAt_dt, lentAt_nm, mSl, mPart, mPart0, mItV, mItR1, mItR2, mItE, mMe, mMeEnd, mSto, resA, resAs, ofO, tgt, tgtL, D.frz, D.pure, D.pureL, D.frzL, mFail, mFailS, truD, List.replicate_succ, fLt, fLe, fGt, fGe])))) (by simp [callM, somes, pureOut, finP, CR.nox, mSs, mSeq, mPass, mRetM, mRetN, mMove, mDo, mAsg, mIfS, mFor, mPar, allDt, mAndV, mOrV, mNotV, mBl, mTru, mAnd, mOr, mNot, mIf, mOp1, mOp2, mOpL, mL, mNil, mCons, mVar, mC, mCh, mVal, valA, mFz, mDt, mTup, mLst, mDct0, mCall, mPerm, permA, lentSlots_pure, back_pure, lentSlots_nil, lentSlots_dt, lentSlots_nm, lentAt_nil, lentAt_dt, lentAt_nm, mSl, mPart, mPart0, mItV, mItR1, mItR2, mItE, mMe, mMeEnd, mSto, resA, resAs, ofO, tgt, tgtL, D.frz, D.pure, D.pureL, D.frzL, mFail, mFailS, truD, List.replicate_succ, fLt, fLe, fGt, fGe, d_rounds_in])
end Lw

set_option Elab.async false
set_option linter.all false
set_option maxRecDepth 100000
set_option maxHeartbeats 4000000
namespace Lw
open PySem L2 Yv Mt
abbrev TR (R : List (List Nat)) : Yv.D := .tup (R.map fun r => TN r)
theorem tupOf_R (o : Bool) (R : List (List Nat)) : pTupOf [LR o R] = some (TR R) := by simp [pTupOf, itS, itL, LR_pure]
theorem LR_frz (R : List (List Nat)) : D.frzL (R.map fun r => TN r) = R.map fun r => TN r := frzL_of_pure (LR_pure R)
theorem t_rounds_of (k : Nat) {n : Nat} {p : List Nat} (h : IsT n p) (h1 : 1 ≤ n) (h2 : n ≤ 24) : fm_rounds_of (k + 6) [TN p] = .ok (TR (rds n p)) [TN p] := by
  rw [f_rounds_of]
  have e1 := t_check_turn k h h1 h2
  have e2 := t_rounds_in (k + 4) h h2
  simp [callM, somes, pureOut, finP, CR.nox, mSs, mSeq, mPass, mRetM, mRetN, mMove, mDo, mAsg, mIfS, mFor, mPar, allDt, mAndV, mOrV, mNotV, mBl, mTru, mAnd, mOr, mNot, mIf, mOp1, mOp2, mOpL, mL, mNil, mCons, mVar, mC, mCh, mVal, valA, mFz, mDt, mTup, mLst, mDct0, mCall, mPerm, permA, lentSlots_pure, back_pure, lentSlots_nil, lentSlots_dt, lentSlots_nm, lentAt_nil, lentAt_dt, lentAt_nm, mSl, mPart, mPart0, mItV, mItR1, mItR2, mItE, mMe, mMeEnd, mSto, resA, resAs, ofO, tgt, tgtL, D.frz, D.pure, D.pureL, D.frzL, mFail, mFailS, truD, List.replicate_succ, fLt, fLe, fGt, fGe, b_rounds_of, d_rounds_of, nI_pure, e1, e2, tupOf_R]
theorem LR_at {R : List (List Nat)} {i : Nat} {d : Yv.D} (h : (R.map fun r => TN r)[i]? = some d) : ∃ r, R[i]? = some r ∧ d = TN r := by
  simp only [List.getElem?_map, Option.map_eq_some_iff] at h
  obtain ⟨r, h1, rfl⟩ := h; exact ⟨r, h1, rfl⟩
theorem bits_lt {a k : Nat} (hk : 0 < k) (h : a < 2 ^ k) : bits (a : Int) < k := by
  unfold bits
  rw [Int.natAbs_natCast]
  by_cases e : a = 0
  · subst e; simpa using hk
  · exact (Nat.log2_lt e).mpr h
theorem pMul_nat (a b : Nat) (ha : a < 2 ^ 40) (hb : b < 2 ^ 40) : pMul (.int (a : Int)) (.int (b : Int)) = some (.int ((a * b : Nat) : Int)) := by
  have h1 := bits_lt (k := 40) (by omega) ha
  have h2 := bits_lt (k := 40) (by omega) hb
  show (if decide (bits (a : Int) + bits (b : Int) < 1000000) = true then some (Yv.D.int ((a : Int) * (b : Int))) else none) = _
  rw [if_pos (by simp only [decide_eq_true_eq]; omega), Int.natCast_mul]
theorem pDiv_nat (a b : Nat) (hb : 0 < b) (hc : b < 2 ^ 40) : pDiv (.int (a : Int)) (.int (b : Int)) = some (.int ((a / b : Nat) : Int)) := by
  have h2 := bits_lt (k := 40) (by omega) hc
  show (if (decide (0 < (b : Int)) && decide (bits (b : Int) < 9000)) = true then some (Yv.D.int ((a : Int) / (b : Int))) else none) = _
  rw [if_pos (by simp only [Bool.and_eq_true, decide_eq_true_eq]; omega), Int.natCast_ediv]
theorem ordF_take {rs : List (List Nat)} {i : Nat} {r : List Nat} (h : rs[i]? = some r) (o : Nat) : ordF o (rs.take (i + 1)) = ordF o (rs.take i) * r.length / Nat.gcd (ordF o (rs.take i)) r.length := by
  have : ∀ (a b : List (List Nat)) (o : Nat), ordF o (a ++ b) = ordF (ordF o a) b := fun a => by
    induction a with
    | nil => intro b o; rfl
    | cons x a ih => intro b o; simp only [List.cons_append, ordF, ih]
  rw [List.take_add_one, h]
  simp only [Option.toList_some, this, ordF]
theorem ord_le {n : Nat} {p : List Nat} (h : IsT n p) (h2 : n ≤ 24) (i : Nat) : 0 < ordF 1 ((rds n p).take i) ∧ ordF 1 ((rds n p).take i) ≤ 6561 := by
  have q := rds_ok h
  obtain ⟨g1, g2, g3⟩ := q.ord h h2
  obtain ⟨p1, _⟩ := ordF_ok ((rds n p).take i) 1 (by omega) fun r m => q.two r (List.mem_of_mem_take m)
  refine ⟨p1, ?_⟩
  have : ordF 1 ((rds n p).take i) ∣ ord (rds n p) := by
    have e : ord (rds n p) = ordF (ordF 1 ((rds n p).take i)) ((rds n p).drop i) := by
      have app : ∀ (a b : List (List Nat)) (o : Nat), ordF o (a ++ b) = ordF (ordF o a) b := fun a => by
        induction a with
        | nil => intro b o; rfl
        | cons x a ih => intro b o; simp only [List.cons_append, ordF, ih]
      rw [← app, List.take_append_drop]; rfl
    rw [e]; exact (ordF_ok _ _ p1 fun r m => q.two r (List.mem_of_mem_drop m)).2.1
  exact Nat.le_trans (Nat.le_of_dvd g1 this) g3
theorem t_order_in (k : Nat) {n : Nat} {p : List Nat} (h : IsT n p) (h2 : n ≤ 24) : fm_order_in (k + 2) [TN p] = .ok (.int (ord (rds n p) : Nat)) [TN p] := by
  rw [f_order_in]
  have e2 := t_rounds_in k h h2
  have q := rds_ok h
  obtain ⟨δ', g1, g2⟩ := for_inv (P := [0]) (mi := mItV (mCall (fm_rounds_in (k + 1)) (mL [(mVar 0)]))) (t := .nm 2) (b := (mSs [(mAsg [0] (.nm 1) (mOp2 pDiv (mOp2 pMul (mVar 1) (mOpL pLen (mL [(mVar 2)]))) (mCall (fm_common (k + 1)) (mL [(mVar 1), (mOpL pLen (mL [(mVar 2)]))]))))]))
    (δ := [some (TN p), some (.int 1), none]) (δ1 := [some (TN p), some (.int 1), none]) (ds := (rds n p).map fun r => TN r)
    (fun i δ => ∃ a, δ = [some (TN p), some (.int (ordF 1 ((rds n p).take i) : Nat)), a])
    (by simp [callM, somes, pureOut, finP, CR.nox, mSs, mSeq, mPass, mRetM, mRetN, mMove, mDo, mAsg, mIfS, mFor, mPar, allDt, mAndV, mOrV, mNotV, mBl, mTru, mAnd, mOr, mNot, mIf, mOp1, mOp2, mOpL, mL, mNil, mCons, mVar, mC, mCh, mVal, valA, mFz, mDt, mTup, mLst, mDct0, mCall, mPerm, permA, lentSlots_pure, back_pure, lentSlots_nil, lentSlots_dt, lentSlots_nm, lentAt_nil, lentAt_dt, lentAt_nm, mSl, mPart, mPart0, mItV, mItR1, mItR2, mItE, mMe, mMeEnd, mSto, resA, resAs, ofO, tgt, tgtL, D.frz, D.pure, D.pureL, D.frzL, mFail, mFailS, truD, List.replicate_succ, fLt, fLe, fGt, fGe, e2, nI_pure, itF, LR_frz, LR_pure]) ⟨none, rfl⟩ (by
      rintro i d δ w ⟨a, rfl⟩
      obtain ⟨r, hr, rfl⟩ := LR_at w
      have mr : r ∈ rds n p := List.mem_of_getElem? hr
      obtain ⟨o1, o2⟩ := ord_le h h2 i
      have rl : r.length ≤ n := by
        obtain ⟨b, hb, rfl⟩ := q.orb r mr
        rw [orb_len]; exact (h.per_ok hb).2.1
      have rl2 := q.two r mr
      have em := pMul_nat (ordF 1 ((rds n p).take i)) r.length (by omega) (by omega)
      have ec := t_common k (ordF 1 ((rds n p).take i)) r.length (by omega)
      have gp : 0 < Nat.gcd (ordF 1 ((rds n p).take i)) r.length := Nat.gcd_pos_of_pos_left _ o1
      have gl : Nat.gcd (ordF 1 ((rds n p).take i)) r.length ≤ r.length := Nat.le_of_dvd (by omega) (Nat.gcd_dvd_right _ _)
      have ed := pDiv_nat (ordF 1 ((rds n p).take i) * r.length) _ gp (by omega)
      rw [← ordF_take hr] at ed
      generalize ordF 1 ((rds n p).take i) * r.length = mm at em ed
      exact ⟨[some (TN p), some (.int (ordF 1 ((rds n p).take i) : Nat)), some (TN r)], [some (TN p), some (.int (ordF 1 ((rds n p).take (i + 1)) : Nat)), some (TN r)], by simp [callM, somes, pureOut, finP, CR.nox, mSs, mSeq, mPass, mRetM, mRetN, mMove, mDo, mAsg, mIfS, mFor, mPar, allDt, mAndV, mOrV, mNotV, mBl, mTru, mAnd, mOr, mNot, mIf, mOp1, mOp2, mOpL, mL, mNil, mCons, mVar, mC, mCh, mVal, valA, mFz, mDt, mTup, mLst, mDct0, mCall, mPerm, permA, lentSlots_pure, back_pure, lentSlots_nil, lentSlots_dt, lentSlots_nm, lentAt_nil, lentAt_dt, lentAt_nm, mSl, mPart, mPart0, mItV, mItR1, mItR2, mItE, mMe, mMeEnd, mSto, resA, resAs, ofO, tgt, tgtL, D.frz, D.pure, D.pureL, D.frzL, mFail, mFailS, truD, List.replicate_succ, fLt, fLe, fGt, fGe], by simp [callM, somes, pureOut, finP, CR.nox, mSs, mSeq, mPass, mRetM, mRetN, mMove, mDo, mAsg, mIfS, mFor, mPar, allDt, mAndV, mOrV, mNotV, mBl, mTru, mAnd, mOr, mNot, mIf, mOp1, mOp2, mOpL, mL, mNil, mCons, mVar, mC, mCh, mVal, valA, mFz, mDt, mTup, mLst, mDct0, mCall, mPerm, permA, lentSlots_pure, back_pure, lentSlots_nil, lentSlots_dt, lentSlots_nm, lentAt_nil, lentAt_dt, lentAt_nm, mSl, mPart, mPart0, mItV, mItR1, mItR2, mItE, mMe, mMeEnd, mSto, resA, resAs, ofO, tgt, tgtL, D.frz, D.pure, D.pureL, D.frzL, mFail, mFailS, truD, List.replicate_succ, fLt, fLe, fGt, fGe, pLen_T, em, ec, ed], _, rfl⟩)
  obtain ⟨a, rfl⟩ := g2
  rw [List.length_map, List.take_length] at g1
  exact run_rt (δ := [some (TN p), none, a]) (by simp [callM, somes, pureOut, finP, CR.nox, mSs, mSeq, mPass, mRetM, mRetN, mMove, mDo, mAsg, mIfS, mFor, mPar, allDt, mAndV, mOrV, mNotV, mBl, mTru, mAnd, mOr, mNot, mIf, mOp1, mOp2, mOpL, mL, mNil, mCons, mVar, mC, mCh, mVal, valA, mFz, mDt, mTup, mLst, mDct0, mCall, mPerm, permA, lentSlots_pure, back_pure, lentSlots_nil, lentSlots_dt, lentSlots_nm, lentAt_nil, lentAt_dt, lentAt_nm, mSl, mPart, mPart0, mItV, mItR1, mItR2, mItE, mMe, mMeEnd, mSto, resA, resAs, ofO, tgt, tgtL, D.frz, D.pure, D.pureL, D.frzL, mFail, mFailS, truD, List.replicate_succ, fLt, fLe, fGt, fGe, d_order_in, nI_pure]) (ss_nx (δ1 := [some (TN p), some (.int 1), none]) (by simp [callM, somes, pureOut, finP, CR.nox, mSs, mSeq, mPass, mRetM, mRetN, mMove, mDo, mAsg, mIfS, mFor, mPar, allDt, mAndV, mOrV, mNotV, mBl, mTru, mAnd, mOr, mNot, mIf, mOp1, mOp2, mOpL, mL, mNil, mCons, mVar, mC, mCh, mVal, valA, mFz, mDt, mTup, mLst, mDct0, mCall, mPerm, permA, lentSlots_pure, back_pure, lentSlots_nil, lentSlots_dt, lentSlots_nm, lentAt_nil, lentAt_dt, lentAt_nm, mSl, mPart, mPart0, mItV, mItR1, mItR2, mItE, mMe, mMeEnd, mSto, resA, resAs, ofO, tgt, tgtL, D.frz, D.pure, D.pureL, D.frzL, mFail, mFailS, truD, List.replicate_succ, fLt, fLe, fGt, fGe, d_order_in]) (ss_nx g1 (ss_rt (by simp [callM, somes, pureOut, finP, CR.nox, mSs, mSeq, mPass, mRetM, mRetN, mMove, mDo, mAsg, mIfS, mFor, mPar, allDt, mAndV, mOrV, mNotV, mBl, mTru, mAnd, mOr, mNot, mIf, mOp1, mOp2, mOpL, mL, mNil, mCons, mVar, mC, mCh, mVal, valA, mFz, mDt, mTup, mLst, mDct0, mCall, mPerm, permA, lentSlots_pure, back_pure, lentSlots_nil, lentSlots_dt, lentSlots_nm, lentAt_nil, lentAt_dt, lentAt_nm, mSl, mPart, mPart0, mItV, mItR1, mItR2, mItE, mMe, mMeEnd, mSto, resA, resAs, ofO, tgt, tgtL, D.frz, D.pure, D.pureL, D.frzL, mFail, mFailS, truD, List.replicate_succ, fLt, fLe, fGt, fGe, ord])))) (by simp [callM, somes, pureOut, finP, CR.nox, mSs, mSeq, mPass, mRetM, mRetN, mMove, mDo, mAsg, mIfS, mFor, mPar, allDt, mAndV, mOrV, mNotV, mBl, mTru, mAnd, mOr, mNot, mIf, mOp1, mOp2, mOpL, mL, mNil, mCons, mVar, mC, mCh, mVal, valA, mFz, mDt, mTup, mLst, mDct0, mCall, mPerm, permA, lentSlots_pure, back_pure, lentSlots_nil, lentSlots_dt, lentSlots_nm, lentAt_nil, lentAt_dt, lentAt_nm, mSl, mPart, mPart0, mItV, mItR1, mItR2, mItE, mMe, mMeEnd, mSto, resA, resAs, ofO, tgt, tgtL, D.frz, D.pure, D.pureL, D.frzL, mFail, mFailS, truD, List.replicate_succ, fLt, fLe, fGt, fGe, d_order_in])
end Lw

set_option Elab.async false
set_option linter.all false
set_option maxRecDepth 100000
set_option maxHeartbeats 4000000
namespace Lw
open PySem L2 Yv Mt
theorem t_order_of (k : Nat) {n : Nat} {p : List Nat} (h : IsT n p) (h1 : 1 ≤ n) (h2 : n ≤ 24) : fm_order_of (k + 6) [TN p] = .ok (.int (ord (rds n p) : Nat)) [TN p] := by
  rw [f_order_of]
  have e1 := t_check_turn k h h1 h2
  have e2 := t_order_in (k + 3) h h2
  simp [callM, somes, pureOut, finP, CR.nox, mSs, mSeq, mPass, mRetM, mRetN, mMove, mDo, mAsg, mIfS, mFor, mPar, allDt, mAndV, mOrV, mNotV, mBl, mTru, mAnd, mOr, mNot, mIf, mOp1, mOp2, mOpL, mL, mNil, mCons, mVar, mC, mCh, mVal, valA, mFz, mDt, mTup, mLst, mDct0, mCall, mPerm, permA, lentSlots_pure, back_pure, lentSlots_nil, lentSlots_dt, lentSlots_nm, lentAt_nil, lentAt_dt, lentAt_nm, mSl, mPart, mPart0, mItV, mItR1, mItR2, mItE, mMe, mMeEnd, mSto, resA, resAs, ofO, tgt, tgtL, D.frz, D.pure, D.pureL, D.frzL, mFail, mFailS, truD, List.replicate_succ, fLt, fLe, fGt, fGe, b_order_of, d_order_of, nI_pure, e1, e2]
theorem sumI (l : List Int) (o : Bool) : lI fSum [.lst o (l.map .int)] = some (.int l.sum) := by
  unfold lI itL
  simp only [pureL_ints, if_true, intsOf_map, fSum, Option.map_some]
theorem spn_sum : ∀ (R : List (List Nat)), (∀ r ∈ R, 1 < r.length) → (R.map fun r => ((r.length : Nat) : Int) - 1).sum = (spn R : Nat)
  | [], _ => rfl
  | r :: R, h => by
    have := h r (by simp)
    simp only [List.map_cons, List.sum_cons, spn, spn_sum R fun r m => h r (by simp [m])]
    omega
def lenD1 : Yv.D → Yv.D
  | .tup ds => .int ((ds.length : Nat) - 1)
  | d => d
theorem t_is_even_of (k : Nat) {n : Nat} {p : List Nat} (h : IsT n p) (h2 : n ≤ 24) : fm_is_even_of (k + 2) [TN p] = .ok (.bl !inv p) [TN p] := by
  rw [f_is_even_of]
  have e2 := t_rounds_in k h h2
  have q := rds_ok h
  have lc := lc_map (mi := mItV (mCall (fm_rounds_in (k + 1)) (mL [(mVar 0)]))) (t := .nm 1) (tt := mYes) (te := mOp2 pSub (mOpL pLen (mL [(mVar 1)])) (mC (.int 1))) (vs := [1])
    (δ := [some (TN p), none]) (δ1 := [some (TN p), none]) (ds := (rds n p).map fun r => TN r) lenD1
    (by simp [callM, somes, pureOut, finP, CR.nox, mSs, mSeq, mPass, mRetM, mRetN, mMove, mDo, mAsg, mIfS, mFor, mPar, allDt, mAndV, mOrV, mNotV, mBl, mTru, mAnd, mOr, mNot, mIf, mOp1, mOp2, mOpL, mL, mNil, mCons, mVar, mC, mCh, mVal, valA, mFz, mDt, mTup, mLst, mDct0, mCall, mPerm, permA, lentSlots_pure, back_pure, lentSlots_nil, lentSlots_dt, lentSlots_nm, lentAt_nil, lentAt_dt, lentAt_nm, mSl, mPart, mPart0, mItV, mItR1, mItR2, mItE, mMe, mMeEnd, mSto, resA, resAs, ofO, tgt, tgtL, D.frz, D.pure, D.pureL, D.frzL, mFail, mFailS, truD, List.replicate_succ, fLt, fLe, fGt, fGe, e2, nI_pure, itF, LR_frz, LR_pure]) rfl (by
      rw [List.length_map]
      have e := (Rds.ord h q h2).2.2
      have : ∀ {R : List (List Nat)}, (∀ r ∈ R, 1 < r.length) → R.length ≤ R.flatten.length := fun {R} => by
        induction R with
        | nil => intro _; simp
        | cons r R ih => intro w; have := w r (by simp); have := ih fun r m => w r (by simp [m]); simp only [List.length_cons, List.flatten_cons, List.length_append]; omega
      have a := this q.two
      have b := flat_le q.nd (q.lt h)
      omega) (fun d m => by
      obtain ⟨r, mr, rfl⟩ := List.mem_map.mp m
      simp [callM, somes, pureOut, finP, CR.nox, mSs, mSeq, mPass, mRetM, mRetN, mMove, mDo, mAsg, mIfS, mFor, mPar, allDt, mAndV, mOrV, mNotV, mBl, mTru, mAnd, mOr, mNot, mIf, mOp1, mOp2, mOpL, mL, mNil, mCons, mVar, mC, mCh, mVal, valA, mFz, mDt, mTup, mLst, mDct0, mCall, mPerm, permA, lentSlots_pure, back_pure, lentSlots_nil, lentSlots_dt, lentSlots_nm, lentAt_nil, lentAt_dt, lentAt_nm, mSl, mPart, mPart0, mItV, mItR1, mItR2, mItE, mMe, mMeEnd, mSto, resA, resAs, ofO, tgt, tgtL, D.frz, D.pure, D.pureL, D.frzL, mFail, mFailS, truD, List.replicate_succ, fLt, fLe, fGt, fGe, lcStep, others, wipeD, backD, mYes, List.range_succ, nI_frz, pLen_T, pSub, lenD1, nI_len])
  have em : ((rds n p).map fun r => TN r).map lenD1 = ((rds n p).map fun r => ((r.length : Nat) : Int) - 1).map .int := by
    rw [List.map_map, List.map_map]; apply List.map_congr_left; intro r _; simp [lenD1, nI_len]
  rw [em] at lc
  simp only [mL] at lc
  have es := sumI ((rds n p).map fun r => ((r.length : Nat) : Int) - 1) true
  rw [spn_sum _ q.two] at es
  have ed : pMod (.int (spn (rds n p) : Nat)) (.int 2) = some (.int ((spn (rds n p) % 2 : Nat) : Int)) := pMod_nat (spn (rds n p)) 2 (by omega)
  have hi := (q.prd h).2
  have ef : decide (((spn (rds n p) % 2 : Nat) : Int) = 0) = !inv p := by
    rw [hi]; unfold oddB
    rcases Nat.mod_two_eq_zero_or_one (spn (rds n p)) with z | z <;> rw [z] <;> simp
  generalize spn (rds n p) % 2 = mm at ed ef
  generalize ((rds n p).map fun r => ((r.length : Nat) : Int) - 1).map Yv.D.int = zz at lc es
  have eq2 := pEq_I (mm : Int) 0
  rw [ef] at eq2
  simp [callM, somes, pureOut, finP, CR.nox, mSs, mSeq, mPass, mRetM, mRetN, mMove, mDo, mAsg, mIfS, mFor, mPar, allDt, mAndV, mOrV, mNotV, mBl, mTru, mAnd, mOr, mNot, mIf, mOp1, mOp2, mOpL, mL, mNil, mCons, mVar, mC, mCh, mVal, valA, mFz, mDt, mTup, mLst, mDct0, mCall, mPerm, permA, lentSlots_pure, back_pure, lentSlots_nil, lentSlots_dt, lentSlots_nm, lentAt_nil, lentAt_dt, lentAt_nm, mSl, mPart, mPart0, mItV, mItR1, mItR2, mItE, mMe, mMeEnd, mSto, resA, resAs, ofO, tgt, tgtL, D.frz, D.pure, D.pureL, D.frzL, mFail, mFailS, truD, List.replicate_succ, fLt, fLe, fGt, fGe, b_is_even_of, d_is_even_of, nI_pure, lc, es, ed, eq2]
theorem t_is_even (k : Nat) {n : Nat} {p : List Nat} (h : IsT n p) (h1 : 1 ≤ n) (h2 : n ≤ 24) : fm_is_even (k + 6) [TN p] = .ok (.bl !inv p) [TN p] := by
  rw [f_is_even]
  have e1 := t_check_turn k h h1 h2
  have e2 := t_is_even_of (k + 3) h h2
  simp [callM, somes, pureOut, finP, CR.nox, mSs, mSeq, mPass, mRetM, mRetN, mMove, mDo, mAsg, mIfS, mFor, mPar, allDt, mAndV, mOrV, mNotV, mBl, mTru, mAnd, mOr, mNot, mIf, mOp1, mOp2, mOpL, mL, mNil, mCons, mVar, mC, mCh, mVal, valA, mFz, mDt, mTup, mLst, mDct0, mCall, mPerm, permA, lentSlots_pure, back_pure, lentSlots_nil, lentSlots_dt, lentSlots_nm, lentAt_nil, lentAt_dt, lentAt_nm, mSl, mPart, mPart0, mItV, mItR1, mItR2, mItE, mMe, mMeEnd, mSto, resA, resAs, ofO, tgt, tgtL, D.frz, D.pure, D.pureL, D.frzL, mFail, mFailS, truD, List.replicate_succ, fLt, fLe, fGt, fGe, b_is_even, d_is_even, nI_pure, e1, e2]
end Lw

set_option Elab.async false
set_option linter.all false
set_option maxRecDepth 100000
set_option maxHeartbeats 4000000
namespace Lw
open PySem L2 Yv Mt
/-- the value that the inner loop writes at x -/
theorem sh_ix {r : List Nat} (hr : r.Nodup) {i : Nat} (hi : i < r.length) (k : Int) : pMod (.int ((i : Int) + k)) (.int (r.length : Nat)) = some (.int (((i : Int) + k) % (r.length : Nat))) ∧
    pIx (TN r) (.int (((i : Int) + k) % (r.length : Nat))) = some (.int (sh k r (ap r i) : Nat)) := by
  have hp : (0 : Int) < (r.length : Nat) := by omega
  refine ⟨?_, ?_⟩
  · simp only [pMod, hp, decide_true, if_true]
  · have h0 := Int.emod_nonneg ((i : Int) + k) (b := (r.length : Nat)) (by omega)
    have h1 := Int.emod_lt_of_pos ((i : Int) + k) hp
    obtain ⟨j, hj⟩ := Int.eq_ofNat_of_zero_le h0
    rw [hj] at h1
    rw [hj, pIx_T (by omega)]
    unfold sh
    rw [ap_eq hi, hr.idxOf_getElem i hi, hj, Int.toNat_natCast]; rfl
theorem inner {r t0 : List Nat} (hr : r.Nodup) (hl : ∀ x ∈ r, x < t0.length) (k : Int) (x0 x1 : Option Yv.D) (a4 a5 : Option Yv.D) (ke : Mn A)
    (hk : ke = mC (.int k) ∨ (ke = mVar 1 ∧ x1 = some (.int k))) :
    ∃ t b4 b5, mFor [0, 1] (mItE (mVar 3)) (.tp [(.nm 4), (.nm 5)]) (mSs [(mSto 2 (mVar 5) (mOp2 pIx (mVar 3) (mOp2 pMod (mOp2 pAdd (mVar 4) ke) (mOpL pLen (mL [(mVar 3)])))))])
      [x0, x1, some (LS true t0), some (TN r), a4, a5] = .nx [x0, x1, some (LS true t), some (TN r), b4, b5] ∧ In k r t0 r.length t := by
  obtain ⟨δ', g1, g2⟩ := for_inv (P := [0, 1]) (mi := mItE (mVar 3)) (t := .tp [(.nm 4), (.nm 5)]) (b := mSs [(mSto 2 (mVar 5) (mOp2 pIx (mVar 3) (mOp2 pMod (mOp2 pAdd (mVar 4) ke) (mOpL pLen (mL [(mVar 3)])))))])
    (δ := [x0, x1, some (LS true t0), some (TN r), a4, a5]) (δ1 := [x0, x1, some (LS true t0), some (TN r), a4, a5])
    (fun i δ => ∃ t b4 b5, δ = [x0, x1, some (LS true t), some (TN r), b4, b5] ∧ In k r t0 i t) (itE_T _ _ _ r (by simp [callM, somes, pureOut, finP, CR.nox, mSs, mSeq, mPass, mRetM, mRetN, mMove, mDo, mAsg, mIfS, mFor, mPar, allDt, mAndV, mOrV, mNotV, mBl, mTru, mAnd, mOr, mNot, mIf, mOp1, mOp2, mOpL, mL, mNil, mCons, mVar, mC, mCh, mVal, valA, mFz, mDt, mTup, mLst, mDct0, mCall, mPerm, permA, lentSlots_pure, back_pure, lentSlots_nil, lentSlots_dt, lentSlots_nm, lentAt_nil, lentAt_dt, lentAt_nm, mSl, mPart, mPart0, mItV, mItR1, mItR2, mItE, mMe, mMeEnd, mSto, resA, resAs, ofO, tgt, tgtL, D.frz, D.pure, D.pureL, D.frzL, mFail, mFailS, truD, List.replicate_succ, fLt, fLe, fGt, fGe, nI_frz, nI_pure, itF])) ⟨t0, a4, a5, rfl, In_zero k r t0⟩ (by
      rintro i d δ w ⟨t, b4, b5, rfl, q⟩
      obtain ⟨hi, rfl⟩ := pairs_at w
      obtain ⟨e1, e2⟩ := sh_ix hr hi k
      have hx : ap r i < t0.length := by rw [ap_eq hi]; exact hl _ (List.getElem_mem _)
      have e3 := pSet_L (l := t) (i := ap r i) (v := sh k r (ap r i)) (by rw [q.1]; exact hx)
      refine ⟨[x0, x1, some (LS true t), some (TN r), some (.int (i : Int)), some (.int (ap r i : Nat))], [x0, x1, some (LS true (t.set (ap r i) (sh k r (ap r i)))), some (TN r), some (.int (i : Int)), some (.int (ap r i : Nat))], by simp [callM, somes, pureOut, finP, CR.nox, mSs, mSeq, mPass, mRetM, mRetN, mMove, mDo, mAsg, mIfS, mFor, mPar, allDt, mAndV, mOrV, mNotV, mBl, mTru, mAnd, mOr, mNot, mIf, mOp1, mOp2, mOpL, mL, mNil, mCons, mVar, mC, mCh, mVal, valA, mFz, mDt, mTup, mLst, mDct0, mCall, mPerm, permA, lentSlots_pure, back_pure, lentSlots_nil, lentSlots_dt, lentSlots_nm, lentAt_nil, lentAt_dt, lentAt_nm, mSl, mPart, mPart0, mItV, mItR1, mItR2, mItE, mMe, mMeEnd, mSto, resA, resAs, ofO, tgt, tgtL, D.frz, D.pure, D.pureL, D.frzL, mFail, mFailS, truD, List.replicate_succ, fLt, fLe, fGt, fGe], ?_, _, _, _, rfl, In_step hr q (by rw [ap_eq hi]; exact List.getElem?_eq_getElem hi) hx⟩
      generalize sh k r (ap r i) = vv at *
      generalize ((i : Int) + k) % (r.length : Nat) = mm at *
      rcases hk with rfl | ⟨rfl, rfl⟩
      · simp [callM, somes, pureOut, finP, CR.nox, mSs, mSeq, mPass, mRetM, mRetN, mMove, mDo, mAsg, mIfS, mFor, mPar, allDt, mAndV, mOrV, mNotV, mBl, mTru, mAnd, mOr, mNot, mIf, mOp1, mOp2, mOpL, mL, mNil, mCons, mVar, mC, mCh, mVal, valA, mFz, mDt, mTup, mLst, mDct0, mCall, mPerm, permA, lentSlots_pure, back_pure, lentSlots_nil, lentSlots_dt, lentSlots_nm, lentAt_nil, lentAt_dt, lentAt_nm, mSl, mPart, mPart0, mItV, mItR1, mItR2, mItE, mMe, mMeEnd, mSto, resA, resAs, ofO, tgt, tgtL, D.frz, D.pure, D.pureL, D.frzL, mFail, mFailS, truD, List.replicate_succ, fLt, fLe, fGt, fGe, e1, e2, e3, pAdd, pLen_T]
      · simp [callM, somes, pureOut, finP, CR.nox, mSs, mSeq, mPass, mRetM, mRetN, mMove, mDo, mAsg, mIfS, mFor, mPar, allDt, mAndV, mOrV, mNotV, mBl, mTru, mAnd, mOr, mNot, mIf, mOp1, mOp2, mOpL, mL, mNil, mCons, mVar, mC, mCh, mVal, valA, mFz, mDt, mTup, mLst, mDct0, mCall, mPerm, permA, lentSlots_pure, back_pure, lentSlots_nil, lentSlots_dt, lentSlots_nm, lentAt_nil, lentAt_dt, lentAt_nm, mSl, mPart, mPart0, mItV, mItR1, mItR2, mItE, mMe, mMeEnd, mSto, resA, resAs, ofO, tgt, tgtL, D.frz, D.pure, D.pureL, D.frzL, mFail, mFailS, truD, List.replicate_succ, fLt, fLe, fGt, fGe, e1, e2, e3, pAdd, pLen_T])
  obtain ⟨t, b4, b5, rfl, q⟩ := g2
  rw [pairs_len] at q
  exact ⟨t, b4, b5, g1, q⟩
end Lw

set_option Elab.async false
set_option linter.all false
set_option maxRecDepth 100000
set_option maxHeartbeats 4000000
namespace Lw
open PySem L2 Yv Mt
theorem outer {n : Nat} {rs : List (List Nat)} (hn : rs.flatten.Nodup) (hl : ∀ r ∈ rs, ∀ x ∈ r, x < n) (k : Int) (x0 x1 : Option Yv.D) (ke : Mn A) (hk : ke = mC (.int k) ∨ (ke = mVar 1 ∧ x1 = some (.int k))) (mi : Mn (List Yv.D))
    (hm : mi [x0, x1, some (LS true (idt n)), none, none, none] = .ok (rs.map fun r => TN r) [x0, x1, some (LS true (idt n)), none, none, none]) :
    ∃ t b3 b4 b5, mFor [0, 1] mi (.nm 3) (mSs [(mFor [0, 1] (mItE (mVar 3)) (.tp [(.nm 4), (.nm 5)]) (mSs [(mSto 2 (mVar 5) (mOp2 pIx (mVar 3) (mOp2 pMod (mOp2 pAdd (mVar 4) ke) (mOpL pLen (mL [(mVar 3)])))))]))])
      [x0, x1, some (LS true (idt n)), none, none, none] = .nx [x0, x1, some (LS true t), b3, b4, b5] ∧ Out n k rs rs.length t := by
  obtain ⟨δ', g1, g2⟩ := for_inv (P := [0, 1]) (mi := mi) (t := .nm 3) (b := (mSs [(mFor [0, 1] (mItE (mVar 3)) (.tp [(.nm 4), (.nm 5)]) (mSs [(mSto 2 (mVar 5) (mOp2 pIx (mVar 3) (mOp2 pMod (mOp2 pAdd (mVar 4) ke) (mOpL pLen (mL [(mVar 3)])))))]))]))
    (δ1 := [x0, x1, some (LS true (idt n)), none, none, none]) (ds := rs.map fun r => TN r)
    (fun i δ => ∃ t b3 b4 b5, δ = [x0, x1, some (LS true t), b3, b4, b5] ∧ Out n k rs i t) hm ⟨idt n, none, none, none, rfl, Out_zero n k rs⟩ (by
      rintro i d δ w ⟨t, b3, b4, b5, rfl, q⟩
      obtain ⟨r, hr, rfl⟩ := LR_at w
      have mr : r ∈ rs := List.mem_of_getElem? hr
      have rn : r.Nodup := hn.sublist (List.sublist_flatten_of_mem mr)
      obtain ⟨t2, c4, c5, u1, u2⟩ := inner (r := r) (t0 := t) rn (fun x m => by rw [q.1]; exact hl r mr x m) k x0 x1 b4 b5 ke hk
      exact ⟨[x0, x1, some (LS true t), some (TN r), b4, b5], [x0, x1, some (LS true t2), some (TN r), c4, c5], by simp [callM, somes, pureOut, finP, CR.nox, mSs, mSeq, mPass, mRetM, mRetN, mMove, mDo, mAsg, mIfS, mFor, mPar, allDt, mAndV, mOrV, mNotV, mBl, mTru, mAnd, mOr, mNot, mIf, mOp1, mOp2, mOpL, mL, mNil, mCons, mVar, mC, mCh, mVal, valA, mFz, mDt, mTup, mLst, mDct0, mCall, mPerm, permA, lentSlots_pure, back_pure, lentSlots_nil, lentSlots_dt, lentSlots_nm, lentAt_nil, lentAt_dt, lentAt_nm, mSl, mPart, mPart0, mItV, mItR1, mItR2, mItE, mMe, mMeEnd, mSto, resA, resAs, ofO, tgt, tgtL, D.frz, D.pure, D.pureL, D.frzL, mFail, mFailS, truD, List.replicate_succ, fLt, fLe, fGt, fGe], ss_nx u1 (by simp [mSs, mPass]), _, _, _, _, rfl, Out_step hn q hr u2⟩)
  obtain ⟨t, b3, b4, b5, rfl, q⟩ := g2
  rw [List.length_map] at q
  exact ⟨t, b3, b4, b5, g1, q⟩
theorem t_turn_by_rounds (k : Nat) {n : Nat} {p : List Nat} (h : IsT n p) (h2 : n ≤ 24) : fm_turn_by_rounds (k + 1) [.int n, TR (rds n p)] = .ok (TN p) [.int n, TR (rds n p)] := by
  rw [f_turn_by_rounds]
  have q := rds_ok h
  have e1 := rgL1 n (by omega)
  obtain ⟨t, b3, b4, b5, g1, g2⟩ := outer q.nd (q.lt h) 1 (some (.int n)) (some (TR (rds n p))) (mC (.int 1)) (.inl rfl) (mItV (mVar 1)) (by simp [callM, somes, pureOut, finP, CR.nox, mSs, mSeq, mPass, mRetM, mRetN, mMove, mDo, mAsg, mIfS, mFor, mPar, allDt, mAndV, mOrV, mNotV, mBl, mTru, mAnd, mOr, mNot, mIf, mOp1, mOp2, mOpL, mL, mNil, mCons, mVar, mC, mCh, mVal, valA, mFz, mDt, mTup, mLst, mDct0, mCall, mPerm, permA, lentSlots_pure, back_pure, lentSlots_nil, lentSlots_dt, lentSlots_nm, lentAt_nil, lentAt_dt, lentAt_nm, mSl, mPart, mPart0, mItV, mItR1, mItR2, mItE, mMe, mMeEnd, mSto, resA, resAs, ofO, tgt, tgtL, D.frz, D.pure, D.pureL, D.frzL, mFail, mFailS, truD, List.replicate_succ, fLt, fLe, fGt, fGe, LR_frz, LR_pure, itF])
  have et := Out_one h q g2
  subst et
  exact run_rt (δ := [some (.int n), some (TR (rds n t)), some (LS true t), b3, b4, b5]) (by simp [callM, somes, pureOut, finP, CR.nox, mSs, mSeq, mPass, mRetM, mRetN, mMove, mDo, mAsg, mIfS, mFor, mPar, allDt, mAndV, mOrV, mNotV, mBl, mTru, mAnd, mOr, mNot, mIf, mOp1, mOp2, mOpL, mL, mNil, mCons, mVar, mC, mCh, mVal, valA, mFz, mDt, mTup, mLst, mDct0, mCall, mPerm, permA, lentSlots_pure, back_pure, lentSlots_nil, lentSlots_dt, lentSlots_nm, lentAt_nil, lentAt_dt, lentAt_nm, mSl, mPart, mPart0, mItV, mItR1, mItR2, mItE, mMe, mMeEnd, mSto, resA, resAs, ofO, tgt, tgtL, D.frz, D.pure, D.pureL, D.frzL, mFail, mFailS, truD, List.replicate_succ, fLt, fLe, fGt, fGe, d_turn_by_rounds, LR_pure]) (ss_nx (δ1 := [some (.int n), some (TR (rds n t)), some (LS true (idt n)), none, none, none]) (by simp [callM, somes, pureOut, finP, CR.nox, mSs, mSeq, mPass, mRetM, mRetN, mMove, mDo, mAsg, mIfS, mFor, mPar, allDt, mAndV, mOrV, mNotV, mBl, mTru, mAnd, mOr, mNot, mIf, mOp1, mOp2, mOpL, mL, mNil, mCons, mVar, mC, mCh, mVal, valA, mFz, mDt, mTup, mLst, mDct0, mCall, mPerm, permA, lentSlots_pure, back_pure, lentSlots_nil, lentSlots_dt, lentSlots_nm, lentAt_nil, lentAt_dt, lentAt_nm, mSl, mPart, mPart0, mItV, mItR1, mItR2, mItE, mMe, mMeEnd, mSto, resA, resAs, ofO, tgt, tgtL, D.frz, D.pure, D.pureL, D.frzL, mFail, mFailS, truD, List.replicate_succ, fLt, fLe, fGt, fGe, d_turn_by_rounds, e1, idt]) (ss_nx g1 (ss_rt (by simp [callM, somes, pureOut, finP, CR.nox, mSs, mSeq, mPass, mRetM, mRetN, mMove, mDo, mAsg, mIfS, mFor, mPar, allDt, mAndV, mOrV, mNotV, mBl, mTru, mAnd, mOr, mNot, mIf, mOp1, mOp2, mOpL, mL, mNil, mCons, mVar, mC, mCh, mVal, valA, mFz, mDt, mTup, mLst, mDct0, mCall, mPerm, permA, lentSlots_pure, back_pure, lentSlots_nil, lentSlots_dt, lentSlots_nm, lentAt_nil, lentAt_dt, lentAt_nm, mSl, mPart, mPart0, mItV, mItR1, mItR2, mItE, mMe, mMeEnd, mSto, resA, resAs, ofO, tgt, tgtL, D.frz, D.pure, D.pureL, D.frzL, mFail, mFailS, truD, List.replicate_succ, fLt, fLe, fGt, fGe, tupOf_L])))) (by simp [callM, somes, pureOut, finP, CR.nox, mSs, mSeq, mPass, mRetM, mRetN, mMove, mDo, mAsg, mIfS, mFor, mPar, allDt, mAndV, mOrV, mNotV, mBl, mTru, mAnd, mOr, mNot, mIf, mOp1, mOp2, mOpL, mL, mNil, mCons, mVar, mC, mCh, mVal, valA, mFz, mDt, mTup, mLst, mDct0, mCall, mPerm, permA, lentSlots_pure, back_pure, lentSlots_nil, lentSlots_dt, lentSlots_nm, lentAt_nil, lentAt_dt, lentAt_nm, mSl, mPart, mPart0, mItV, mItR1, mItR2, mItE, mMe, mMeEnd, mSto, resA, resAs, ofO, tgt, tgtL, D.frz, D.pure, D.pureL, D.frzL, mFail, mFailS, truD, List.replicate_succ, fLt, fLe, fGt, fGe, d_turn_by_rounds])
end Lw

set_option Elab.async false
set_option linter.all false
set_option maxRecDepth 100000
set_option maxHeartbeats 4000000
namespace Lw
open PySem L2 Yv Mt
theorem t_times (k : Nat) {n : Nat} {p : List Nat} (h : IsT n p) (h1 : 1 ≤ n) (h2 : n ≤ 24) (m : Int) (m1 : -1000000 ≤ m) (m2 : m ≤ 1000000) :
    fm_times (k + 6) [TN p, .int m] = .ok (TN (tms n p (m % (ord (rds n p) : Nat)).toNat)) [TN p, .int m] := by
  rw [f_times]
  have q := rds_ok h
  obtain ⟨o1, o2, o3⟩ := q.ord h h2
  have e1 := t_check_turn k h h1 h2
  have e2 := t_is_between (k + 3) (.int m) (-1000000) 1000000 rfl rfl
  simp only [inR, m1, m2, decide_true, Bool.and_self] at e2
  have e3 := rgL1 n (by omega)
  have e4 := t_rounds_in (k + 4) h h2
  obtain ⟨t, b3, b4, b5, g1, g2⟩ := outer q.nd (q.lt h) m (some (TN p)) (some (.int m)) (mVar 1) (.inr ⟨rfl, rfl⟩) (mItV (mCall (fm_rounds_in (k + 5)) (mL [(mVar 0)]))) (by simp [callM, somes, pureOut, finP, CR.nox, mSs, mSeq, mPass, mRetM, mRetN, mMove, mDo, mAsg, mIfS, mFor, mPar, allDt, mAndV, mOrV, mNotV, mBl, mTru, mAnd, mOr, mNot, mIf, mOp1, mOp2, mOpL, mL, mNil, mCons, mVar, mC, mCh, mVal, valA, mFz, mDt, mTup, mLst, mDct0, mCall, mPerm, permA, lentSlots_pure, back_pure, lentSlots_nil, lentSlots_dt, lentSlots_nm, lentAt_nil, lentAt_dt, lentAt_nm, mSl, mPart, mPart0, mItV, mItR1, mItR2, mItE, mMe, mMeEnd, mSto, resA, resAs, ofO, tgt, tgtL, D.frz, D.pure, D.pureL, D.frzL, mFail, mFailS, truD, List.replicate_succ, fLt, fLe, fGt, fGe, e4, nI_pure, LR_frz, LR_pure, itF])
  have et := Out_tms h q o1 o2 g2
  subst et
  exact run_rt (δ := [some (TN p), some (.int m), some (LS true (tms n p (m % (ord (rds n p) : Nat)).toNat)), b3, b4, b5]) (by simp [callM, somes, pureOut, finP, CR.nox, mSs, mSeq, mPass, mRetM, mRetN, mMove, mDo, mAsg, mIfS, mFor, mPar, allDt, mAndV, mOrV, mNotV, mBl, mTru, mAnd, mOr, mNot, mIf, mOp1, mOp2, mOpL, mL, mNil, mCons, mVar, mC, mCh, mVal, valA, mFz, mDt, mTup, mLst, mDct0, mCall, mPerm, permA, lentSlots_pure, back_pure, lentSlots_nil, lentSlots_dt, lentSlots_nm, lentAt_nil, lentAt_dt, lentAt_nm, mSl, mPart, mPart0, mItV, mItR1, mItR2, mItE, mMe, mMeEnd, mSto, resA, resAs, ofO, tgt, tgtL, D.frz, D.pure, D.pureL, D.frzL, mFail, mFailS, truD, List.replicate_succ, fLt, fLe, fGt, fGe, d_times, nI_pure]) (ss_nx (δ1 := [some (TN p), some (.int m), none, none, none, none]) (by simp [callM, somes, pureOut, finP, CR.nox, mSs, mSeq, mPass, mRetM, mRetN, mMove, mDo, mAsg, mIfS, mFor, mPar, allDt, mAndV, mOrV, mNotV, mBl, mTru, mAnd, mOr, mNot, mIf, mOp1, mOp2, mOpL, mL, mNil, mCons, mVar, mC, mCh, mVal, valA, mFz, mDt, mTup, mLst, mDct0, mCall, mPerm, permA, lentSlots_pure, back_pure, lentSlots_nil, lentSlots_dt, lentSlots_nm, lentAt_nil, lentAt_dt, lentAt_nm, mSl, mPart, mPart0, mItV, mItR1, mItR2, mItE, mMe, mMeEnd, mSto, resA, resAs, ofO, tgt, tgtL, D.frz, D.pure, D.pureL, D.frzL, mFail, mFailS, truD, List.replicate_succ, fLt, fLe, fGt, fGe, d_times, e1, nI_pure])
    (ss_nx (δ1 := [some (TN p), some (.int m), none, none, none, none]) (by simp [callM, somes, pureOut, finP, CR.nox, mSs, mSeq, mPass, mRetM, mRetN, mMove, mDo, mAsg, mIfS, mFor, mPar, allDt, mAndV, mOrV, mNotV, mBl, mTru, mAnd, mOr, mNot, mIf, mOp1, mOp2, mOpL, mL, mNil, mCons, mVar, mC, mCh, mVal, valA, mFz, mDt, mTup, mLst, mDct0, mCall, mPerm, permA, lentSlots_pure, back_pure, lentSlots_nil, lentSlots_dt, lentSlots_nm, lentAt_nil, lentAt_dt, lentAt_nm, mSl, mPart, mPart0, mItV, mItR1, mItR2, mItE, mMe, mMeEnd, mSto, resA, resAs, ofO, tgt, tgtL, D.frz, D.pure, D.pureL, D.frzL, mFail, mFailS, truD, List.replicate_succ, fLt, fLe, fGt, fGe, pSub, e2]) (ss_nx (δ1 := [some (TN p), some (.int m), some (LS true (idt n)), none, none, none]) (by simp [callM, somes, pureOut, finP, CR.nox, mSs, mSeq, mPass, mRetM, mRetN, mMove, mDo, mAsg, mIfS, mFor, mPar, allDt, mAndV, mOrV, mNotV, mBl, mTru, mAnd, mOr, mNot, mIf, mOp1, mOp2, mOpL, mL, mNil, mCons, mVar, mC, mCh, mVal, valA, mFz, mDt, mTup, mLst, mDct0, mCall, mPerm, permA, lentSlots_pure, back_pure, lentSlots_nil, lentSlots_dt, lentSlots_nm, lentAt_nil, lentAt_dt, lentAt_nm, mSl, mPart, mPart0, mItV, mItR1, mItR2, mItE, mMe, mMeEnd, mSto, resA, resAs, ofO, tgt, tgtL, D.frz, D.pure, D.pureL, D.frzL, mFail, mFailS, truD, List.replicate_succ, fLt, fLe, fGt, fGe, pLen, lenD, nI_len, h.len, e3, idt]) (ss_nx g1 (ss_rt (by simp [callM, somes, pureOut, finP, CR.nox, mSs, mSeq, mPass, mRetM, mRetN, mMove, mDo, mAsg, mIfS, mFor, mPar, allDt, mAndV, mOrV, mNotV, mBl, mTru, mAnd, mOr, mNot, mIf, mOp1, mOp2, mOpL, mL, mNil, mCons, mVar, mC, mCh, mVal, valA, mFz, mDt, mTup, mLst, mDct0, mCall, mPerm, permA, lentSlots_pure, back_pure, lentSlots_nil, lentSlots_dt, lentSlots_nm, lentAt_nil, lentAt_dt, lentAt_nm, mSl, mPart, mPart0, mItV, mItR1, mItR2, mItE, mMe, mMeEnd, mSto, resA, resAs, ofO, tgt, tgtL, D.frz, D.pure, D.pureL, D.frzL, mFail, mFailS, truD, List.replicate_succ, fLt, fLe, fGt, fGe, tupOf_L])))))) (by simp [callM, somes, pureOut, finP, CR.nox, mSs, mSeq, mPass, mRetM, mRetN, mMove, mDo, mAsg, mIfS, mFor, mPar, allDt, mAndV, mOrV, mNotV, mBl, mTru, mAnd, mOr, mNot, mIf, mOp1, mOp2, mOpL, mL, mNil, mCons, mVar, mC, mCh, mVal, valA, mFz, mDt, mTup, mLst, mDct0, mCall, mPerm, permA, lentSlots_pure, back_pure, lentSlots_nil, lentSlots_dt, lentSlots_nm, lentAt_nil, lentAt_dt, lentAt_nm, mSl, mPart, mPart0, mItV, mItR1, mItR2, mItE, mMe, mMeEnd, mSto, resA, resAs, ofO, tgt, tgtL, D.frz, D.pure, D.pureL, D.frzL, mFail, mFailS, truD, List.replicate_succ, fLt, fLe, fGt, fGe, d_times])
end Lw

set_option Elab.async false
set_option linter.all false
set_option maxRecDepth 100000
set_option maxHeartbeats 4000000
namespace Lw
open PySem L2 Yv Mt
theorem repN (o : Bool) (n : Nat) (h : n ≤ 1000) : pMul (.lst o [.non]) (.int (n : Int)) = some (.lst true (List.replicate n .non)) := by
  have e1 : (List.replicate (n : Int).toNat [Yv.D.non]).flatten = List.replicate n .non := by
    rw [Int.toNat_natCast]; simp
  show (if D.pureL [Yv.D.non] && in62 (n : Int) && Yv.sizeOk (1 * (n : Int).toNat) then some (Yv.D.lst true (List.replicate (n : Int).toNat [Yv.D.non]).flatten) else none) = _
  rw [in62_of (by omega) (by omega), e1]
  rw [if_pos]
  simp only [D.pureL, D.pure, Bool.and_self, Bool.true_and, Yv.sizeOk, decide_eq_true_eq, Int.toNat_natCast]; omega
theorem pSet_D {l : List Yv.D} {i : Nat} {v : Yv.D} (hl : D.pureL l = true) (hv : v.pure = true) (h : i < l.length) : pSet (.lst true l) (.int (i : Int)) v = some (.lst true (l.set i v)) := by
  show (if D.pureL l && v.pure then (ixN l.length (i : Int)).map fun j => Yv.D.lst true (l.set j v) else none) = _
  rw [hl, hv, show ixN l.length (i : Int) = some i by unfold ixN; rw [if_pos (by omega), if_pos (by omega)]; simp]
  rfl
theorem pairs_atD {l : List Yv.D} {i : Nat} {d : Yv.D} (h : (pairsOfD (intsD 0 l.length) l)[i]? = some d) : ∃ y, l[i]? = some y ∧ i < l.length ∧ d = .ptu [.int (i : Int), y] := by
  unfold pairsOfD at h
  rw [intsD_eq] at h
  simp only [List.getElem?_map, Option.map_eq_some_iff] at h
  obtain ⟨a, q, rfl⟩ := h
  rw [List.getElem?_zip_eq_some] at q
  obtain ⟨q1, q2⟩ := q
  have hi : i < l.length := (List.getElem?_eq_some_iff.mp q2).1
  rw [nI_at (by simpa using hi)] at q1
  refine ⟨a.2, q2, hi, ?_⟩
  have : a.1 = .int (i : Int) := by simpa using q1.symm
  rw [this]
theorem pairs_lenD (l : List Yv.D) : (pairsOfD (intsD 0 l.length) l).length = l.length := by
  unfold pairsOfD; rw [intsD_eq]; simp [nI_len]
theorem t_row_moved (k : Nat) {n : Nat} {p : List Nat} (h : IsT n p) (h2 : n ≤ 24) {ds : List Yv.D} (hd : ds.length = n) (hp : D.pureL ds = true) :
    ∃ es, fm_row_moved (k + 1) [TN p, .tup ds] = .ok (.tup es) [TN p, .tup ds] ∧ es.length = n ∧ D.pureL es = true ∧ ∀ j, j < n → es[ap p j]? = ds[j]? := by
  rw [f_row_moved]
  have e1 := repN true n (by omega)
  obtain ⟨δ', g1, g2⟩ := for_inv (P := [0, 1]) (mi := mItE (mVar 1)) (t := .tp [.nm 3, .nm 4]) (b := mSs [mSto 2 (mOp2 pIx (mVar 0) (mVar 3)) (mVar 4)]) (δ := [some (TN p), some (.tup ds), some (.lst true (List.replicate n .non)), none, none]) (δ1 := [some (TN p), some (.tup ds), some (.lst true (List.replicate n .non)), none, none])
    (ds := pairsOfD (intsD 0 ds.length) ds)
    (fun i δ => ∃ t a b, δ = [some (TN p), some (.tup ds), some (.lst true t), a, b] ∧ t.length = n ∧ D.pureL t = true ∧ ∀ j, j < i → t[ap p j]? = ds[j]?)
    (by simp [callM, somes, pureOut, finP, CR.nox, mSs, mSeq, mPass, mRetM, mRetN, mMove, mDo, mAsg, mIfS, mFor, mPar, allDt, mAndV, mOrV, mNotV, mBl, mTru, mAnd, mOr, mNot, mIf, mOp1, mOp2, mOpL, mL, mNil, mCons, mVar, mC, mCh, mVal, valA, mFz, mDt, mTup, mLst, mDct0, mCall, mPerm, permA, lentSlots_pure, back_pure, lentSlots_nil, lentSlots_dt, lentSlots_nm, lentAt_nil, lentAt_dt, lentAt_nm, mSl, mPart, mPart0, mItV, mItR1, mItR2, mItE, mMe, mMeEnd, mSto, resA, resAs, ofO, tgt, tgtL, D.frz, D.pure, D.pureL, D.frzL, mFail, mFailS, truD, List.replicate_succ, fLt, fLe, fGt, fGe, frzL_of_pure, hp, itF]) ⟨List.replicate n .non, none, none, rfl, by simp, pureL_iff.mpr fun d m => by rw [(List.mem_replicate.mp m).2]; rfl, by intro j q; omega⟩ (by
      rintro i d δ w ⟨t, a, b, rfl, q1, q3, q2⟩
      obtain ⟨y, hy, hi, rfl⟩ := pairs_atD w
      rw [hd] at hi
      have hx := h.ap_lt hi
      have py : y.pure = true := pureL_get hp hy
      have e2 := pIx_T (l := p) (i := i) (by rw [h.len]; exact hi)
      have e := pSet_D (l := t) (i := ap p i) (v := y) q3 py (by rw [q1]; exact hx)
      refine ⟨[some (TN p), some (.tup ds), some (.lst true t), some (.int (i : Int)), some y], [some (TN p), some (.tup ds), some (.lst true (t.set (ap p i) y)), some (.int (i : Int)), some y], by simp [callM, somes, pureOut, finP, CR.nox, mSs, mSeq, mPass, mRetM, mRetN, mMove, mDo, mAsg, mIfS, mFor, mPar, allDt, mAndV, mOrV, mNotV, mBl, mTru, mAnd, mOr, mNot, mIf, mOp1, mOp2, mOpL, mL, mNil, mCons, mVar, mC, mCh, mVal, valA, mFz, mDt, mTup, mLst, mDct0, mCall, mPerm, permA, lentSlots_pure, back_pure, lentSlots_nil, lentSlots_dt, lentSlots_nm, lentAt_nil, lentAt_dt, lentAt_nm, mSl, mPart, mPart0, mItV, mItR1, mItR2, mItE, mMe, mMeEnd, mSto, resA, resAs, ofO, tgt, tgtL, D.frz, D.pure, D.pureL, D.frzL, mFail, mFailS, truD, List.replicate_succ, fLt, fLe, fGt, fGe], by simp [callM, somes, pureOut, finP, CR.nox, mSs, mSeq, mPass, mRetM, mRetN, mMove, mDo, mAsg, mIfS, mFor, mPar, allDt, mAndV, mOrV, mNotV, mBl, mTru, mAnd, mOr, mNot, mIf, mOp1, mOp2, mOpL, mL, mNil, mCons, mVar, mC, mCh, mVal, valA, mFz, mDt, mTup, mLst, mDct0, mCall, mPerm, permA, lentSlots_pure, back_pure, lentSlots_nil, lentSlots_dt, lentSlots_nm, lentAt_nil, lentAt_dt, lentAt_nm, mSl, mPart, mPart0, mItV, mItR1, mItR2, mItE, mMe, mMeEnd, mSto, resA, resAs, ofO, tgt, tgtL, D.frz, D.pure, D.pureL, D.frzL, mFail, mFailS, truD, List.replicate_succ, fLt, fLe, fGt, fGe, e, e2, py, frz_of_pure], _, _, _, rfl, by simpa using q1, pureL_iff.mpr fun d m => ?_, fun j hj => ?_⟩
      · rcases List.mem_or_eq_of_mem_set m with m | rfl
        · exact pureL_iff.mp q3 d m
        · exact py
      · rw [List.getElem?_set]
        by_cases c : ap p i = ap p j
        · have : i = j := h.ap_inj hi (by omega) c
          subst this
          rw [if_pos rfl, if_pos (by rw [q1]; exact hx), hy]
        · rw [if_neg c]
          refine q2 j ?_
          have : j ≠ i := fun z => c (by rw [z])
          omega)
  obtain ⟨t, a, b, rfl, q1, q3, q2⟩ := g2
  rw [pairs_lenD, hd] at q2
  have et : pTupOf [.lst true t] = some (.tup t) := by simp [pTupOf, itS, itL, q3]
  refine ⟨t, run_rt (δ := [some (TN p), some (.tup ds), some (.lst true t), a, b]) (by simp [callM, somes, pureOut, finP, CR.nox, mSs, mSeq, mPass, mRetM, mRetN, mMove, mDo, mAsg, mIfS, mFor, mPar, allDt, mAndV, mOrV, mNotV, mBl, mTru, mAnd, mOr, mNot, mIf, mOp1, mOp2, mOpL, mL, mNil, mCons, mVar, mC, mCh, mVal, valA, mFz, mDt, mTup, mLst, mDct0, mCall, mPerm, permA, lentSlots_pure, back_pure, lentSlots_nil, lentSlots_dt, lentSlots_nm, lentAt_nil, lentAt_dt, lentAt_nm, mSl, mPart, mPart0, mItV, mItR1, mItR2, mItE, mMe, mMeEnd, mSto, resA, resAs, ofO, tgt, tgtL, D.frz, D.pure, D.pureL, D.frzL, mFail, mFailS, truD, List.replicate_succ, fLt, fLe, fGt, fGe, d_row_moved, nI_pure, hp]) (ss_nx (δ1 := [some (TN p), some (.tup ds), some (.lst true (List.replicate n .non)), none, none]) ?_ (ss_nx g1 (ss_rt (by simp [callM, somes, pureOut, finP, CR.nox, mSs, mSeq, mPass, mRetM, mRetN, mMove, mDo, mAsg, mIfS, mFor, mPar, allDt, mAndV, mOrV, mNotV, mBl, mTru, mAnd, mOr, mNot, mIf, mOp1, mOp2, mOpL, mL, mNil, mCons, mVar, mC, mCh, mVal, valA, mFz, mDt, mTup, mLst, mDct0, mCall, mPerm, permA, lentSlots_pure, back_pure, lentSlots_nil, lentSlots_dt, lentSlots_nm, lentAt_nil, lentAt_dt, lentAt_nm, mSl, mPart, mPart0, mItV, mItR1, mItR2, mItE, mMe, mMeEnd, mSto, resA, resAs, ofO, tgt, tgtL, D.frz, D.pure, D.pureL, D.frzL, mFail, mFailS, truD, List.replicate_succ, fLt, fLe, fGt, fGe, et])))) (by simp [callM, somes, pureOut, finP, CR.nox, mSs, mSeq, mPass, mRetM, mRetN, mMove, mDo, mAsg, mIfS, mFor, mPar, allDt, mAndV, mOrV, mNotV, mBl, mTru, mAnd, mOr, mNot, mIf, mOp1, mOp2, mOpL, mL, mNil, mCons, mVar, mC, mCh, mVal, valA, mFz, mDt, mTup, mLst, mDct0, mCall, mPerm, permA, lentSlots_pure, back_pure, lentSlots_nil, lentSlots_dt, lentSlots_nm, lentAt_nil, lentAt_dt, lentAt_nm, mSl, mPart, mPart0, mItV, mItR1, mItR2, mItE, mMe, mMeEnd, mSto, resA, resAs, ofO, tgt, tgtL, D.frz, D.pure, D.pureL, D.frzL, mFail, mFailS, truD, List.replicate_succ, fLt, fLe, fGt, fGe, d_row_moved]), q1, q3, q2⟩
  simp [callM, somes, pureOut, finP, CR.nox, mSs, mSeq, mPass, mRetM, mRetN, mMove, mDo, mAsg, mIfS, mFor, mPar, allDt, mAndV, mOrV, mNotV, mBl, mTru, mAnd, mOr, mNot, mIf, mOp1, mOp2, mOpL, mL, mNil, mCons, mVar, mC, mCh, mVal, valA, mFz, mDt, mTup, mLst, mDct0, mCall, mPerm, permA, lentSlots_pure, back_pure, lentSlots_nil, lentSlots_dt, lentSlots_nm, lentAt_nil, lentAt_dt, lentAt_nm, mSl, mPart, mPart0, mItV, mItR1, mItR2, mItE, mMe, mMeEnd, mSto, resA, resAs, ofO, tgt, tgtL, D.frz, D.pure, D.pureL, D.frzL, mFail, mFailS, truD, List.replicate_succ, fLt, fLe, fGt, fGe, d_row_moved, pLen, lenD, nI_len, h.len, e1, nI_frz, Yv.sizeOk]
end Lw

set_option Elab.async false
set_option linter.all false
set_option maxRecDepth 100000
set_option maxHeartbeats 4000000
namespace Lw
open PySem L2 Yv Mt
theorem t_is_tuple_of (k : Nat) (ds : List Yv.D) (hp : D.pureL ds = true) (n : Int) : fm_is_tuple_of (k + 1) [.tup ds, .int n] = .ok (.bl (decide ((ds.length : Int) = n))) [.tup ds, .int n] := by
  rw [f_is_tuple_of]
  simp [callM, somes, pureOut, finP, CR.nox, mSs, mSeq, mPass, mRetM, mRetN, mMove, mDo, mAsg, mIfS, mFor, mPar, allDt, mAndV, mOrV, mNotV, mBl, mTru, mAnd, mOr, mNot, mIf, mOp1, mOp2, mOpL, mL, mNil, mCons, mVar, mC, mCh, mVal, valA, mFz, mDt, mTup, mLst, mDct0, mCall, mPerm, permA, lentSlots_pure, back_pure, lentSlots_nil, lentSlots_dt, lentSlots_nm, lentAt_nil, lentAt_dt, lentAt_nm, mSl, mPart, mPart0, mItV, mItR1, mItR2, mItE, mMe, mMeEnd, mSto, resA, resAs, ofO, tgt, tgtL, D.frz, D.pure, D.pureL, D.frzL, mFail, mFailS, truD, List.replicate_succ, fLt, fLe, fGt, fGe, b_is_tuple_of, d_is_tuple_of, isi_tuple, pLen, lenD, pEq_I, hp, frzL_of_pure]
theorem t_moved (k : Nat) {n : Nat} {p : List Nat} (h : IsT n p) (h1 : 1 ≤ n) (h2 : n ≤ 24) {ds : List Yv.D} (hd : ds.length = n) (hp : D.pureL ds = true) :
    ∃ es, fm_moved (k + 6) [TN p, .tup ds] = .ok (.tup es) [TN p, .tup ds] ∧ es.length = n ∧ D.pureL es = true ∧ ∀ j, j < n → es[ap p j]? = ds[j]? := by
  obtain ⟨es, g1, g2, g3, g4⟩ := t_row_moved (k + 4) h h2 hd hp
  refine ⟨es, ?_, g2, g3, g4⟩
  rw [f_moved]
  have e1 := t_check_turn k h h1 h2
  have e2 := t_is_tuple_of (k + 4) ds hp n
  simp only [hd, decide_true] at e2
  simp [callM, somes, pureOut, finP, CR.nox, mSs, mSeq, mPass, mRetM, mRetN, mMove, mDo, mAsg, mIfS, mFor, mPar, allDt, mAndV, mOrV, mNotV, mBl, mTru, mAnd, mOr, mNot, mIf, mOp1, mOp2, mOpL, mL, mNil, mCons, mVar, mC, mCh, mVal, valA, mFz, mDt, mTup, mLst, mDct0, mCall, mPerm, permA, lentSlots_pure, back_pure, lentSlots_nil, lentSlots_dt, lentSlots_nm, lentAt_nil, lentAt_dt, lentAt_nm, mSl, mPart, mPart0, mItV, mItR1, mItR2, mItE, mMe, mMeEnd, mSto, resA, resAs, ofO, tgt, tgtL, D.frz, D.pure, D.pureL, D.frzL, mFail, mFailS, truD, List.replicate_succ, fLt, fLe, fGt, fGe, b_moved, d_moved, nI_pure, hp, e1, e2, g1, pLen_T, h.len]
end Lw

set_option Elab.async false
set_option linter.all false
set_option maxRecDepth 100000
set_option maxHeartbeats 4000000
namespace Lw
open PySem L2 Yv Mt
theorem dat_R {n : Nat} {R : List (List Nat)} (h2 : n ≤ 24) (hl : ∀ r ∈ R, ∀ x ∈ r, x < n) (hm : ∀ r ∈ R, r.length ≤ n) : Dat (TR R) (.tuple (R.map PT)) 2 (R.length * (24 * 12 + 3 + 2) + 3) :=
  dat_tup (datL_all R fun r m => by
    have d := dat_T (l := r) 0 fun x mx => by have := hl r m x mx; omega
    have := hm r m
    exact ⟨d.py, d.sh, d.hd, d.lay, d.dep, by have := d.len; omega, d.ok⟩)
theorem ext_T (l r : List Nat) (h : l.length + r.length ≤ 1000) : pExtend (LS true l) [TN r] = some (some (LS true (l ++ r)), .non) := by
  have e : itS (TN r) = some (nI r) := by simp [itS, itL, itT, nI_pure]
  have e2 : (D.pureL (nI l) && Yv.sizeOk ((nI l).length + (nI r).length)) = true := by
    rw [nI_pure, nI_len, nI_len]; simp only [Bool.true_and, Yv.sizeOk, decide_eq_true_eq]; omega
  simp only [pExtend, e]
  rw [if_pos e2, ← nI_append]
theorem inR_all {n : Nat} {r : List Nat} (h : ∀ x ∈ r, x < n) : (nI r).all (inR 0 ((n : Int) - 1)) = true := by
  rw [List.all_eq_true]; intro d m
  obtain ⟨x, mx, rfl⟩ := nI_mem m
  have := h x mx
  simp only [inR, Bool.and_eq_true, decide_eq_true_eq]; omega
theorem t_are_rounds (k : Nat) {n : Nat} {p : List Nat} (h : IsT n p) (h2 : n ≤ 24) : fm_are_rounds (k + 4) [.int n, TR (rds n p)] = .ok (.bl true) [.int n, TR (rds n p)] := by
  rw [f_are_rounds]
  have q := rds_ok h
  have hl := q.lt h
  have hm : ∀ r ∈ rds n p, r.length ≤ n := fun r m => by obtain ⟨b, hb, rfl⟩ := q.orb r m; rw [orb_len]; exact (h.per_ok hb).2.1
  have fl := flat_le q.nd hl
  have rl : (rds n p).length ≤ 24 := by
    have : ∀ {R : List (List Nat)}, (∀ r ∈ R, 1 < r.length) → R.length ≤ R.flatten.length := fun {R} => by
      induction R with
      | nil => intro _; simp
      | cons r R ih => intro w; have := w r (by simp); have := ih fun r m => w r (by simp [m]); simp only [List.length_cons, List.flatten_cons, List.length_append]; omega
    have := this q.two; omega
  have lc := lc_map (mi := mItV (mVar 1)) (t := .nm 3) (tt := mYes) (te := mAndV (mCall (fm_are_between (k + 3)) (mL [(mVar 3), (mC (.int 0)), (mOp2 pSub (mVar 0) (mC (.int 1)))])) (mOp2 (pOrd fGt gGt) (mOpL pLen (mL [(mVar 3)])) (mC (.int 1)))) (vs := [3])
    (δ := [some (.int n), some (TR (rds n p)), none, none]) (δ1 := [some (.int n), some (TR (rds n p)), none, none]) (ds := (rds n p).map fun r => TN r) (fun _ => .bl ((fun _ => true) Yv.D.non))
    (by simp [callM, somes, pureOut, finP, CR.nox, mSs, mSeq, mPass, mRetM, mRetN, mMove, mDo, mAsg, mIfS, mFor, mPar, allDt, mAndV, mOrV, mNotV, mBl, mTru, mAnd, mOr, mNot, mIf, mOp1, mOp2, mOpL, mL, mNil, mCons, mVar, mC, mCh, mVal, valA, mFz, mDt, mTup, mLst, mDct0, mCall, mPerm, permA, lentSlots_pure, back_pure, lentSlots_nil, lentSlots_dt, lentSlots_nm, lentAt_nil, lentAt_dt, lentAt_nm, mSl, mPart, mPart0, mItV, mItR1, mItR2, mItE, mMe, mMeEnd, mSto, resA, resAs, ofO, tgt, tgtL, D.frz, D.pure, D.pureL, D.frzL, mFail, mFailS, truD, List.replicate_succ, fLt, fLe, fGt, fGe, LR_frz, LR_pure, itF]) rfl (by rw [List.length_map]; omega) (fun d m => by
      obtain ⟨r, mr, rfl⟩ := List.mem_map.mp m
      have e := t_are_between k (nI r) 0 ((n : Int) - 1) (noS_nI r) (nI_pure r) (by rw [nI_len]; have := hm r mr; omega)
      rw [inR_all (hl r mr)] at e
      have c : (1 : Int) < (r.length : Nat) := by have := q.two r mr; omega
      simp [callM, somes, pureOut, finP, CR.nox, mSs, mSeq, mPass, mRetM, mRetN, mMove, mDo, mAsg, mIfS, mFor, mPar, allDt, mAndV, mOrV, mNotV, mBl, mTru, mAnd, mOr, mNot, mIf, mOp1, mOp2, mOpL, mL, mNil, mCons, mVar, mC, mCh, mVal, valA, mFz, mDt, mTup, mLst, mDct0, mCall, mPerm, permA, lentSlots_pure, back_pure, lentSlots_nil, lentSlots_dt, lentSlots_nm, lentAt_nil, lentAt_dt, lentAt_nm, mSl, mPart, mPart0, mItV, mItR1, mItR2, mItE, mMe, mMeEnd, mSto, resA, resAs, ofO, tgt, tgtL, D.frz, D.pure, D.pureL, D.frzL, mFail, mFailS, truD, List.replicate_succ, fLt, fLe, fGt, fGe, lcStep, others, wipeD, backD, mYes, List.range_succ, nI_frz, nI_pure, pLen_T, pSub, e, pOrd, c])
  simp only [mL] at lc
  have ea := allB ((rds n p).map fun r => TN r) (fun _ => true)
  obtain ⟨δ', g1, g2⟩ := for_inv (P := [0, 1]) (mi := mItV (mVar 1)) (t := .nm 3) (b := mSs [mDo (mMe "list" "list" pExtend pExtend (mVar 2) (mL [mVar 3]))]) (δ := [some (.int n), some (TR (rds n p)), some (LS true []), none]) (δ1 := [some (.int n), some (TR (rds n p)), some (LS true []), none]) (ds := (rds n p).map fun r => TN r)
    (fun i δ => ∃ a, δ = [some (.int n), some (TR (rds n p)), some (LS true ((rds n p).take i).flatten), a])
    (by simp [callM, somes, pureOut, finP, CR.nox, mSs, mSeq, mPass, mRetM, mRetN, mMove, mDo, mAsg, mIfS, mFor, mPar, allDt, mAndV, mOrV, mNotV, mBl, mTru, mAnd, mOr, mNot, mIf, mOp1, mOp2, mOpL, mL, mNil, mCons, mVar, mC, mCh, mVal, valA, mFz, mDt, mTup, mLst, mDct0, mCall, mPerm, permA, lentSlots_pure, back_pure, lentSlots_nil, lentSlots_dt, lentSlots_nm, lentAt_nil, lentAt_dt, lentAt_nm, mSl, mPart, mPart0, mItV, mItR1, mItR2, mItE, mMe, mMeEnd, mSto, resA, resAs, ofO, tgt, tgtL, D.frz, D.pure, D.pureL, D.frzL, mFail, mFailS, truD, List.replicate_succ, fLt, fLe, fGt, fGe, LR_frz, LR_pure, itF]) ⟨none, rfl⟩ (by
      rintro i d δ w ⟨a, rfl⟩
      obtain ⟨r, hr, rfl⟩ := LR_at w
      have mr := List.mem_of_getElem? hr
      have et : ((rds n p).take (i + 1)).flatten = ((rds n p).take i).flatten ++ r := by rw [List.take_add_one, hr]; simp
      have le : ((rds n p).take i).flatten.length ≤ 24 := by
        have : ((rds n p).take i).flatten.length ≤ (rds n p).flatten.length := by
          conv => rhs; rw [← List.take_append_drop i (rds n p), List.flatten_append, List.length_append]
          omega
        omega
      have e := ext_T ((rds n p).take i).flatten r (by have := hm r mr; omega)
      rw [← et] at e
      exact ⟨[some (.int n), some (TR (rds n p)), some (LS true ((rds n p).take i).flatten), some (TN r)], [some (.int n), some (TR (rds n p)), some (LS true ((rds n p).take (i + 1)).flatten), some (TN r)], by simp [callM, somes, pureOut, finP, CR.nox, mSs, mSeq, mPass, mRetM, mRetN, mMove, mDo, mAsg, mIfS, mFor, mPar, allDt, mAndV, mOrV, mNotV, mBl, mTru, mAnd, mOr, mNot, mIf, mOp1, mOp2, mOpL, mL, mNil, mCons, mVar, mC, mCh, mVal, valA, mFz, mDt, mTup, mLst, mDct0, mCall, mPerm, permA, lentSlots_pure, back_pure, lentSlots_nil, lentSlots_dt, lentSlots_nm, lentAt_nil, lentAt_dt, lentAt_nm, mSl, mPart, mPart0, mItV, mItR1, mItR2, mItE, mMe, mMeEnd, mSto, resA, resAs, ofO, tgt, tgtL, D.frz, D.pure, D.pureL, D.frzL, mFail, mFailS, truD, List.replicate_succ, fLt, fLe, fGt, fGe], by simp [callM, somes, pureOut, finP, CR.nox, mSs, mSeq, mPass, mRetM, mRetN, mMove, mDo, mAsg, mIfS, mFor, mPar, allDt, mAndV, mOrV, mNotV, mBl, mTru, mAnd, mOr, mNot, mIf, mOp1, mOp2, mOpL, mL, mNil, mCons, mVar, mC, mCh, mVal, valA, mFz, mDt, mTup, mLst, mDct0, mCall, mPerm, permA, lentSlots_pure, back_pure, lentSlots_nil, lentSlots_dt, lentSlots_nm, lentAt_nil, lentAt_dt, lentAt_nm, mSl, mPart, mPart0, mItV, mItR1, mItR2, mItE, mMe, mMeEnd, mSto, resA, resAs, ofO, tgt, tgtL, D.frz, D.pure, D.pureL, D.frzL, mFail, mFailS, truD, List.replicate_succ, fLt, fLe, fGt, fGe, e, tyM], _, rfl⟩)
  obtain ⟨a, rfl⟩ := g2
  rw [List.length_map, List.take_length] at g1
  have es : pSetLen (LS true (rds n p).flatten) = some (.int ((rds n p).flatten.length : Nat)) := by
    have e2 : ((rds n p).flatten.map fun (x : Nat) => (x : Int)).Nodup := by
      have : ∀ {l : List Nat}, l.Nodup → (l.map fun (x : Nat) => (x : Int)).Nodup := fun {l} => by
        induction l with
        | nil => simp
        | cons a l ih =>
          intro q
          rw [List.nodup_cons] at q
          rw [List.map_cons, List.nodup_cons]
          refine ⟨fun m => ?_, ih q.2⟩
          obtain ⟨b, mb, e⟩ := List.mem_map.mp m
          have : b = a := by omega
          exact q.1 (this ▸ mb)
      exact this q.nd
    have e0 : itS (LS true (rds n p).flatten) = some (nI (rds n p).flatten) := by simp [itS, itL, nI_pure]
    simp only [pSetLen, e0, intsOf_nI]
    rw [if_pos (by simp only [List.length_map, decide_eq_true_eq]; omega), ddI_nodup e2, List.length_map]
  rw [show (((rds n p).map fun r => TN r).all fun _ => true) = true by simp] at ea
  generalize ((rds n p).map fun r => TN r).map (fun _ => Yv.D.bl true) = zz at lc ea
  generalize (rds n p).flatten = ff at *
  have e5 := t_turn_by_rounds (k + 2) h h2
  have e6 := t_rounds_in (k + 2) h h2
  have dr := dat_R h2 hl hm
  have e7 := dr.eq dr (by omega) (by omega)
  rw [eqv_same dr] at e7
  exact run_rt (δ := [some (.int n), some (TR (rds n p)), some (LS true ff), a]) (by simp [callM, somes, pureOut, finP, CR.nox, mSs, mSeq, mPass, mRetM, mRetN, mMove, mDo, mAsg, mIfS, mFor, mPar, allDt, mAndV, mOrV, mNotV, mBl, mTru, mAnd, mOr, mNot, mIf, mOp1, mOp2, mOpL, mL, mNil, mCons, mVar, mC, mCh, mVal, valA, mFz, mDt, mTup, mLst, mDct0, mCall, mPerm, permA, lentSlots_pure, back_pure, lentSlots_nil, lentSlots_dt, lentSlots_nm, lentAt_nil, lentAt_dt, lentAt_nm, mSl, mPart, mPart0, mItV, mItR1, mItR2, mItE, mMe, mMeEnd, mSto, resA, resAs, ofO, tgt, tgtL, D.frz, D.pure, D.pureL, D.frzL, mFail, mFailS, truD, List.replicate_succ, fLt, fLe, fGt, fGe, d_are_rounds, LR_pure]) (ss_nx (δ1 := [some (.int n), some (TR (rds n p)), none, none]) (by simp [callM, somes, pureOut, finP, CR.nox, mSs, mSeq, mPass, mRetM, mRetN, mMove, mDo, mAsg, mIfS, mFor, mPar, allDt, mAndV, mOrV, mNotV, mBl, mTru, mAnd, mOr, mNot, mIf, mOp1, mOp2, mOpL, mL, mNil, mCons, mVar, mC, mCh, mVal, valA, mFz, mDt, mTup, mLst, mDct0, mCall, mPerm, permA, lentSlots_pure, back_pure, lentSlots_nil, lentSlots_dt, lentSlots_nm, lentAt_nil, lentAt_dt, lentAt_nm, mSl, mPart, mPart0, mItV, mItR1, mItR2, mItE, mMe, mMeEnd, mSto, resA, resAs, ofO, tgt, tgtL, D.frz, D.pure, D.pureL, D.frzL, mFail, mFailS, truD, List.replicate_succ, fLt, fLe, fGt, fGe, d_are_rounds, isi_tuple, lc, ea, LR_frz])
    (ss_nx (δ1 := [some (.int n), some (TR (rds n p)), some (LS true []), none]) (by simp [callM, somes, pureOut, finP, CR.nox, mSs, mSeq, mPass, mRetM, mRetN, mMove, mDo, mAsg, mIfS, mFor, mPar, allDt, mAndV, mOrV, mNotV, mBl, mTru, mAnd, mOr, mNot, mIf, mOp1, mOp2, mOpL, mL, mNil, mCons, mVar, mC, mCh, mVal, valA, mFz, mDt, mTup, mLst, mDct0, mCall, mPerm, permA, lentSlots_pure, back_pure, lentSlots_nil, lentSlots_dt, lentSlots_nm, lentAt_nil, lentAt_dt, lentAt_nm, mSl, mPart, mPart0, mItV, mItR1, mItR2, mItE, mMe, mMeEnd, mSto, resA, resAs, ofO, tgt, tgtL, D.frz, D.pure, D.pureL, D.frzL, mFail, mFailS, truD, List.replicate_succ, fLt, fLe, fGt, fGe, Yv.sizeOk, nI]) (ss_nx g1 (ss_rt (by simp [callM, somes, pureOut, finP, CR.nox, mSs, mSeq, mPass, mRetM, mRetN, mMove, mDo, mAsg, mIfS, mFor, mPar, allDt, mAndV, mOrV, mNotV, mBl, mTru, mAnd, mOr, mNot, mIf, mOp1, mOp2, mOpL, mL, mNil, mCons, mVar, mC, mCh, mVal, valA, mFz, mDt, mTup, mLst, mDct0, mCall, mPerm, permA, lentSlots_pure, back_pure, lentSlots_nil, lentSlots_dt, lentSlots_nm, lentAt_nil, lentAt_dt, lentAt_nm, mSl, mPart, mPart0, mItV, mItR1, mItR2, mItE, mMe, mMeEnd, mSto, resA, resAs, ofO, tgt, tgtL, D.frz, D.pure, D.pureL, D.frzL, mFail, mFailS, truD, List.replicate_succ, fLt, fLe, fGt, fGe, es, pLen_L, pEq_I, e5, e6, e7, tupOf_R, LR_pure, nI_pure]))))) (by simp [callM, somes, pureOut, finP, CR.nox, mSs, mSeq, mPass, mRetM, mRetN, mMove, mDo, mAsg, mIfS, mFor, mPar, allDt, mAndV, mOrV, mNotV, mBl, mTru, mAnd, mOr, mNot, mIf, mOp1, mOp2, mOpL, mL, mNil, mCons, mVar, mC, mCh, mVal, valA, mFz, mDt, mTup, mLst, mDct0, mCall, mPerm, permA, lentSlots_pure, back_pure, lentSlots_nil, lentSlots_dt, lentSlots_nm, lentAt_nil, lentAt_dt, lentAt_nm, mSl, mPart, mPart0, mItV, mItR1, mItR2, mItE, mMe, mMeEnd, mSto, resA, resAs, ofO, tgt, tgtL, D.frz, D.pure, D.pureL, D.frzL, mFail, mFailS, truD, List.replicate_succ, fLt, fLe, fGt, fGe, d_are_rounds])
end Lw

set_option Elab.async false
set_option linter.all false
set_option maxRecDepth 100000
set_option maxHeartbeats 4000000
namespace Lw
open PySem L2 Yv Mt
theorem t_turn_of_rounds (k : Nat) {n : Nat} {p : List Nat} (h : IsT n p) (h1 : 1 ≤ n) (h2 : n ≤ 24) : fm_turn_of_rounds (k + 5) [.int n, TR (rds n p)] = .ok (TN p) [.int n, TR (rds n p)] := by
  rw [f_turn_of_rounds]
  have e1 := t_check_many (k + 1) n (by omega) (by omega)
  have e2 := t_are_rounds k h h2
  have e3 := t_turn_by_rounds (k + 3) h h2
  simp [callM, somes, pureOut, finP, CR.nox, mSs, mSeq, mPass, mRetM, mRetN, mMove, mDo, mAsg, mIfS, mFor, mPar, allDt, mAndV, mOrV, mNotV, mBl, mTru, mAnd, mOr, mNot, mIf, mOp1, mOp2, mOpL, mL, mNil, mCons, mVar, mC, mCh, mVal, valA, mFz, mDt, mTup, mLst, mDct0, mCall, mPerm, permA, lentSlots_pure, back_pure, lentSlots_nil, lentSlots_dt, lentSlots_nm, lentAt_nil, lentAt_dt, lentAt_nm, mSl, mPart, mPart0, mItV, mItR1, mItR2, mItE, mMe, mMeEnd, mSto, resA, resAs, ofO, tgt, tgtL, D.frz, D.pure, D.pureL, D.frzL, mFail, mFailS, truD, List.replicate_succ, fLt, fLe, fGt, fGe, b_turn_of_rounds, d_turn_of_rounds, LR_pure, e1, e2, e3]
end Lw

set_option Elab.async false
set_option linter.all false
set_option maxRecDepth 100000
set_option maxHeartbeats 4000000
namespace Lw
open PySem L2 Yv Mt
/-- the draws of one cell, after at most c mixed ones -/
def PotD (o q m : Int) : Yv.D := .lst true [.int o, .int q, .int m]
structure PotOk (c : Nat) (o q m : Int) : Prop where
  o0 : 0 ≤ o
  o1 : o < 10 ^ 300
  q0 : 0 ≤ q
  q1 : q < 2 ^ 61
  m0 : 0 ≤ m
  m1 : m ≤ c
theorem bitsI {a : Int} {k : Nat} (hk : 0 < k) (h0 : 0 ≤ a) (h : a < 2 ^ k) : bits a < k := by
  obtain ⟨n, rfl⟩ := Int.eq_ofNat_of_zero_le h0
  exact bits_lt hk (by exact_mod_cast h)
theorem pMulI {a b : Int} (a0 : 0 ≤ a) (a1 : a < 2 ^ 1000) (b0 : 0 ≤ b) (b1 : b < 2 ^ 1000) : pMul (.int a) (.int b) = some (.int (a * b)) := by
  have h1 := bitsI (by omega) a0 a1
  have h2 := bitsI (by omega) b0 b1
  show (if decide (bits a + bits b < 1000000) = true then some (Yv.D.int (a * b)) else none) = _
  rw [if_pos (by simp only [decide_eq_true_eq]; omega)]
theorem pModI {a b : Int} (h : 0 < b) : pMod (.int a) (.int b) = some (.int (a % b)) := by
  simp only [pMod, h, decide_true, if_true]
theorem pDivI {a b : Int} (h : 0 < b) (b1 : b < 2 ^ 1000) : pDiv (.int a) (.int b) = some (.int (a / b)) := by
  have h2 := bitsI (by omega) (by omega) b1
  show (if (decide (0 < b) && decide (bits b < 9000)) = true then some (Yv.D.int (a / b)) else none) = _
  rw [if_pos (by simp only [Bool.and_eq_true, decide_eq_true_eq]; omega)]
theorem ix0 (o q m : Int) : pIx (.lst true [.int o, .int q, .int m]) (.int 0) = some (.int o) := by kernel_rfl
theorem ix1 (o q m : Int) : pIx (.lst true [.int o, .int q, .int m]) (.int 1) = some (.int q) := by kernel_rfl
theorem ix2 (o q m : Int) : pIx (.lst true [.int o, .int q, .int m]) (.int 2) = some (.int m) := by kernel_rfl
theorem st0 (o q m v : Int) : pSet (.lst true [.int o, .int q, .int m]) (.int 0) (.int v) = some (.lst true [.int v, .int q, .int m]) := by kernel_rfl
theorem st2 (o q m v : Int) : pSet (.lst true [.int o, .int q, .int m]) (.int 2) (.int v) = some (.lst true [.int o, .int q, .int v]) := by kernel_rfl
theorem take_own (k : Nat) {c : Nat} {o q m u : Int} (h : PotOk c o q m) (hu : 0 < u) (hu2 : u ≤ 1000000) (ho : 0 < o) :
    fm__law_take (k + 1) [PotD o q m, .int u] = .ok (.int (o % u)) [PotD (o / u) q m, .int u] := by
  rw [f__law_take]
  have e1 := pModI (a := o) hu
  have e2 := pDivI (a := o) hu (by omega)
  unfold PotD
  simp [callM, somes, pureOut, finP, CR.nox, mSs, mSeq, mPass, mRetM, mRetN, mMove, mDo, mAsg, mIfS, mFor, mPar, allDt, mAndV, mOrV, mNotV, mBl, mTru, mAnd, mOr, mNot, mIf, mOp1, mOp2, mOpL, mL, mNil, mCons, mVar, mC, mCh, mVal, valA, mFz, mDt, mTup, mLst, mDct0, mCall, mPerm, permA, lentSlots_pure, back_pure, lentSlots_nil, lentSlots_dt, lentSlots_nm, lentAt_nil, lentAt_dt, lentAt_nm, mSl, mPart, mPart0, mItV, mItR1, mItR2, mItE, mMe, mMeEnd, mSto, resA, resAs, ofO, tgt, tgtL, D.frz, D.pure, D.pureL, D.frzL, mFail, mFailS, truD, List.replicate_succ, fLt, fLe, fGt, fGe, b__law_take, d__law_take, ix0, st0, pOrd, ho, pInt, e1, e2]
theorem pPow3 {a : Int} (h0 : 0 ≤ a) (h : a < 2 ^ 1000) : pPow (.int a) (.int 3) = some (.int (a ^ 3)) := by
  have hb := bitsI (by omega) h0 h
  have hi : (Builtin.Int.intBits a : Int) ≤ 1001 := by
    unfold Builtin.Int.intBits
    unfold bits at hb
    split <;> omega
  show (if (decide ((0 : Int) ≤ 3) && decide ((Builtin.Int.intBits a : Int) * 3 ≤ 2 ^ 27)) = true then some (Yv.D.int (a ^ (3 : Int).toNat)) else none) = _
  rw [if_pos (by simp only [Bool.and_eq_true, decide_eq_true_eq]; omega)]
  rfl
theorem primeAt {r : Int} (h0 : 0 ≤ r) (h : r < 4) : ∃ v : Int, pIx (.lst true [.int 2147483647, .int 2147483629, .int 2147483587, .int 2147483579]) (.int r) = some (.int v) ∧ 0 < v ∧ v ≤ 2147483647 := by
  have : r = 0 ∨ r = 1 ∨ r = 2 ∨ r = 3 := by omega
  rcases this with rfl | rfl | rfl | rfl
  · exact ⟨2147483647, by kernel_rfl, by decide, by decide⟩
  · exact ⟨2147483629, by kernel_rfl, by decide, by decide⟩
  · exact ⟨2147483587, by kernel_rfl, by decide, by decide⟩
  · exact ⟨2147483579, by kernel_rfl, by decide, by decide⟩
end Lw

set_option Elab.async false
set_option linter.all false
set_option maxRecDepth 100000
set_option maxHeartbeats 4000000
namespace Lw
open PySem L2 Yv Mt
theorem take_mix (k : Nat) {c : Nat} {q m u : Int} (h : PotOk c 0 q m) (hc : c ≤ 1000000000) (hu : 0 < u) (hu2 : u ≤ 1000000) :
    ∃ v : Int, fm__law_take (k + 1) [PotD 0 q m, .int u] = .ok (.int v) [PotD 0 q (m + 1), .int u] ∧ 0 ≤ v ∧ v < u := by
  rw [f__law_take]
  have q0 := h.q0
  have q1 := h.q1
  have m0 := h.m0
  have m1 := h.m1
  have mm : (m + 1) * (m + 1) < 2 ^ 62 := by
    have : (m + 1) * (m + 1) ≤ 1000000001 * 1000000001 := Int.mul_le_mul (by omega) (by omega) (by omega) (by omega)
    omega
  have mm0 : 0 ≤ (m + 1) * (m + 1) := Int.mul_nonneg (by omega) (by omega)
  have e1 : pMul (.int 167189) (.int (m + 1)) = some (.int (167189 * (m + 1))) := pMulI (by omega) (by omega) (by omega) (by omega)
  have a2 : 167189 * (m + 1) * (m + 1) = 167189 * ((m + 1) * (m + 1)) := Int.mul_assoc _ _ _
  have e2 : pMul (.int (167189 * (m + 1))) (.int (m + 1)) = some (.int (167189 * ((m + 1) * (m + 1)))) := by rw [← a2]; exact pMulI (by omega) (by omega) (by omega) (by omega)
  generalize hs : (m + 1) * (m + 1) = s at *
  have e3 : pPow (.int (q + 167189 * s + 5210)) (.int 3) = some (.int ((q + 167189 * s + 5210) ^ 3)) := pPow3 (by omega) (by omega)
  generalize (q + 167189 * s + 5210) ^ 3 = w at e3
  have e4 : pMod (.int (m + 1)) (.int 4) = some (.int ((m + 1) % 4)) := pModI (by omega)
  obtain ⟨pr, e5, p0, p1⟩ := primeAt (r := (m + 1) % 4) (Int.emod_nonneg _ (by omega)) (Int.emod_lt_of_pos _ (by omega))
  have e6 : pMod (.int w) (.int pr) = some (.int (w % pr)) := pModI p0
  have b0 := Int.emod_nonneg w (b := pr) (by omega)
  have b1 := Int.emod_lt_of_pos w p0
  generalize w % pr = bl at *
  have e7 : pMod (.int bl) (.int 10007) = some (.int (bl % 10007)) := pModI (by omega)
  have c0 := Int.emod_nonneg bl (b := 10007) (by omega)
  have c1 := Int.emod_lt_of_pos bl (b := 10007) (by omega)
  generalize bl % 10007 = bm at *
  have e8 : pMul (.int 4412) (.int (m + 1)) = some (.int (4412 * (m + 1))) := pMulI (by omega) (by omega) (by omega) (by omega)
  have e9 : pMul (.int bl) (.int (bm + 4412 * (m + 1))) = some (.int (bl * (bm + 4412 * (m + 1)))) := pMulI (by omega) (by omega) (by omega) (by omega)
  generalize bl * (bm + 4412 * (m + 1)) = x at *
  have e10 : pDiv (.int x) (.int 307) = some (.int (x / 307)) := pDivI (by omega) (by omega)
  generalize x / 307 = y at *
  have e11 : pMod (.int y) (.int u) = some (.int (y % u)) := pModI hu
  refine ⟨y % u, ?_, Int.emod_nonneg _ (by omega), Int.emod_lt_of_pos _ hu⟩
  unfold PotD
  have ea : pAdd (.int m) (.int 1) = some (.int (m + 1)) := rfl
  have eb : pAdd (.int q) (.int (167189 * s)) = some (.int (q + 167189 * s)) := rfl
  have ec : pAdd (.int (q + 167189 * s)) (.int 5210) = some (.int (q + 167189 * s + 5210)) := rfl
  have ee : pAdd (.int bm) (.int (4412 * (m + 1))) = some (.int (bm + 4412 * (m + 1))) := rfl
  generalize q + 167189 * s + 5210 = z1 at *
  generalize q + 167189 * s = z2 at *
  generalize bm + 4412 * (m + 1) = z3 at *
  generalize 4412 * (m + 1) = z4 at *
  generalize 167189 * (m + 1) = z5 at *
  generalize 167189 * s = z6 at *
  generalize (m + 1) % 4 = z7 at *
  generalize y % u = z8 at *
  generalize m + 1 = m' at *
  refine run_rt (δ := [some (.lst true [.int 0, .int q, .int m']), some (.int u), none, some (.int pr), some (.int bl)]) (by simp [callM, somes, pureOut, finP, CR.nox, mSs, mSeq, mPass, mRetM, mRetN, mMove, mDo, mAsg, mIfS, mFor, mPar, allDt, mAndV, mOrV, mNotV, mBl, mTru, mAnd, mOr, mNot, mIf, mOp1, mOp2, mOpL, mL, mNil, mCons, mVar, mC, mCh, mVal, valA, mFz, mDt, mTup, mLst, mDct0, mCall, mPerm, permA, lentSlots_pure, back_pure, lentSlots_nil, lentSlots_dt, lentSlots_nm, lentAt_nil, lentAt_dt, lentAt_nm, mSl, mPart, mPart0, mItV, mItR1, mItR2, mItE, mMe, mMeEnd, mSto, resA, resAs, ofO, tgt, tgtL, D.frz, D.pure, D.pureL, D.frzL, mFail, mFailS, truD, List.replicate_succ, fLt, fLe, fGt, fGe, d__law_take]) (ss_nx (δ1 := [some (.lst true [.int 0, .int q, .int m]), some (.int u), none, none, none]) (by simp [callM, somes, pureOut, finP, CR.nox, mSs, mSeq, mPass, mRetM, mRetN, mMove, mDo, mAsg, mIfS, mFor, mPar, allDt, mAndV, mOrV, mNotV, mBl, mTru, mAnd, mOr, mNot, mIf, mOp1, mOp2, mOpL, mL, mNil, mCons, mVar, mC, mCh, mVal, valA, mFz, mDt, mTup, mLst, mDct0, mCall, mPerm, permA, lentSlots_pure, back_pure, lentSlots_nil, lentSlots_dt, lentSlots_nm, lentAt_nil, lentAt_dt, lentAt_nm, mSl, mPart, mPart0, mItV, mItR1, mItR2, mItE, mMe, mMeEnd, mSto, resA, resAs, ofO, tgt, tgtL, D.frz, D.pure, D.pureL, D.frzL, mFail, mFailS, truD, List.replicate_succ, fLt, fLe, fGt, fGe, d__law_take, ix0, pOrd])
    (ss_nx (δ1 := [some (.lst true [.int 0, .int q, .int m']), some (.int u), none, none, none]) (by simp [callM, somes, pureOut, finP, CR.nox, mSs, mSeq, mPass, mRetM, mRetN, mMove, mDo, mAsg, mIfS, mFor, mPar, allDt, mAndV, mOrV, mNotV, mBl, mTru, mAnd, mOr, mNot, mIf, mOp1, mOp2, mOpL, mL, mNil, mCons, mVar, mC, mCh, mVal, valA, mFz, mDt, mTup, mLst, mDct0, mCall, mPerm, permA, lentSlots_pure, back_pure, lentSlots_nil, lentSlots_dt, lentSlots_nm, lentAt_nil, lentAt_dt, lentAt_nm, mSl, mPart, mPart0, mItV, mItR1, mItR2, mItE, mMe, mMeEnd, mSto, resA, resAs, ofO, tgt, tgtL, D.frz, D.pure, D.pureL, D.frzL, mFail, mFailS, truD, List.replicate_succ, fLt, fLe, fGt, fGe, ix2, ea, st2])
    (ss_nx (δ1 := [some (.lst true [.int 0, .int q, .int m']), some (.int u), none, some (.int pr), none]) (by simp [callM, somes, pureOut, finP, CR.nox, mSs, mSeq, mPass, mRetM, mRetN, mMove, mDo, mAsg, mIfS, mFor, mPar, allDt, mAndV, mOrV, mNotV, mBl, mTru, mAnd, mOr, mNot, mIf, mOp1, mOp2, mOpL, mL, mNil, mCons, mVar, mC, mCh, mVal, valA, mFz, mDt, mTup, mLst, mDct0, mCall, mPerm, permA, lentSlots_pure, back_pure, lentSlots_nil, lentSlots_dt, lentSlots_nm, lentAt_nil, lentAt_dt, lentAt_nm, mSl, mPart, mPart0, mItV, mItR1, mItR2, mItE, mMe, mMeEnd, mSto, resA, resAs, ofO, tgt, tgtL, D.frz, D.pure, D.pureL, D.frzL, mFail, mFailS, truD, List.replicate_succ, fLt, fLe, fGt, fGe, ix2, pInt, e4, e5, Yv.sizeOk])
    (ss_nx (δ1 := [some (.lst true [.int 0, .int q, .int m']), some (.int u), none, some (.int pr), some (.int bl)]) (by simp [callM, somes, pureOut, finP, CR.nox, mSs, mSeq, mPass, mRetM, mRetN, mMove, mDo, mAsg, mIfS, mFor, mPar, allDt, mAndV, mOrV, mNotV, mBl, mTru, mAnd, mOr, mNot, mIf, mOp1, mOp2, mOpL, mL, mNil, mCons, mVar, mC, mCh, mVal, valA, mFz, mDt, mTup, mLst, mDct0, mCall, mPerm, permA, lentSlots_pure, back_pure, lentSlots_nil, lentSlots_dt, lentSlots_nm, lentAt_nil, lentAt_dt, lentAt_nm, mSl, mPart, mPart0, mItV, mItR1, mItR2, mItE, mMe, mMeEnd, mSto, resA, resAs, ofO, tgt, tgtL, D.frz, D.pure, D.pureL, D.frzL, mFail, mFailS, truD, List.replicate_succ, fLt, fLe, fGt, fGe, ix1, ix2, pInt, e1, e2, eb, ec, e3, e6])
    (ss_rt (by simp [callM, somes, pureOut, finP, CR.nox, mSs, mSeq, mPass, mRetM, mRetN, mMove, mDo, mAsg, mIfS, mFor, mPar, allDt, mAndV, mOrV, mNotV, mBl, mTru, mAnd, mOr, mNot, mIf, mOp1, mOp2, mOpL, mL, mNil, mCons, mVar, mC, mCh, mVal, valA, mFz, mDt, mTup, mLst, mDct0, mCall, mPerm, permA, lentSlots_pure, back_pure, lentSlots_nil, lentSlots_dt, lentSlots_nm, lentAt_nil, lentAt_dt, lentAt_nm, mSl, mPart, mPart0, mItV, mItR1, mItR2, mItE, mMe, mMeEnd, mSto, resA, resAs, ofO, tgt, tgtL, D.frz, D.pure, D.pureL, D.frzL, mFail, mFailS, truD, List.replicate_succ, fLt, fLe, fGt, fGe, ix2, pInt, e7, e8, ee, e9, e10, e11])))))) (by simp [callM, somes, pureOut, finP, CR.nox, mSs, mSeq, mPass, mRetM, mRetN, mMove, mDo, mAsg, mIfS, mFor, mPar, allDt, mAndV, mOrV, mNotV, mBl, mTru, mAnd, mOr, mNot, mIf, mOp1, mOp2, mOpL, mL, mNil, mCons, mVar, mC, mCh, mVal, valA, mFz, mDt, mTup, mLst, mDct0, mCall, mPerm, permA, lentSlots_pure, back_pure, lentSlots_nil, lentSlots_dt, lentSlots_nm, lentAt_nil, lentAt_dt, lentAt_nm, mSl, mPart, mPart0, mItV, mItR1, mItR2, mItE, mMe, mMeEnd, mSto, resA, resAs, ofO, tgt, tgtL, D.frz, D.pure, D.pureL, D.frzL, mFail, mFailS, truD, List.replicate_succ, fLt, fLe, fGt, fGe, d__law_take])
end Lw

set_option Elab.async false
set_option linter.all false
set_option maxRecDepth 100000
set_option maxHeartbeats 4000000
namespace Lw
open PySem L2 Yv Mt
/-- a pot after at most c takes -/
def Pot (c : Nat) (d : Yv.D) : Prop := ∃ o q m, d = PotD o q m ∧ PotOk c o q m
theorem Pot.np {c : Nat} {d : Yv.D} (h : Pot c d) : d.pure = false := by obtain ⟨o, q, m, rfl, _⟩ := h; rfl
theorem Pot.up {c c' : Nat} {d : Yv.D} (h : Pot c d) (l : c ≤ c') : Pot c' d := by
  obtain ⟨o, q, m, rfl, p⟩ := h
  exact ⟨o, q, m, rfl, ⟨p.o0, p.o1, p.q0, p.q1, p.m0, by have := p.m1; omega⟩⟩
theorem t_take (k : Nat) {c : Nat} {d : Yv.D} (h : Pot c d) (hc : c ≤ 1000000000) {u : Nat} (hu : 0 < u) (hu2 : u ≤ 1000000) :
    ∃ (v : Nat) (d' : Yv.D), fm__law_take (k + 1) [d, .int (u : Int)] = .ok (.int (v : Int)) [d', .int (u : Int)] ∧ v < u ∧ Pot (c + 1) d' := by
  obtain ⟨o, q, m, rfl, p⟩ := h
  by_cases ho : 0 < o
  · have e := take_own k p (u := (u : Int)) (by omega) (by omega) ho
    have b0 := Int.emod_nonneg o (b := (u : Int)) (by omega)
    have b1 := Int.emod_lt_of_pos o (b := (u : Int)) (by omega)
    refine ⟨(o % (u : Int)).toNat, _, by rw [e, Int.toNat_of_nonneg b0], by omega, o / u, q, m, rfl, ?_, ?_, p.q0, p.q1, p.m0, by have := p.m1; omega⟩
    · exact Int.ediv_nonneg p.o0 (by omega)
    · have := Int.ediv_le_self (u : Int) p.o0
      have := p.o1; omega
  · have : o = 0 := by have := p.o0; omega
    subst this
    obtain ⟨v, e, v0, v1⟩ := take_mix k p (u := (u : Int)) hc (by omega) (by omega)
    exact ⟨v.toNat, _, by rw [e, Int.toNat_of_nonneg v0], by omega, 0, q, m + 1, rfl, p.o0, p.o1, p.q0, p.q1, by have := p.m0; omega, by have := p.m1; omega⟩
/-- one of a list -/
theorem t_of (k : Nat) {c : Nat} {d : Yv.D} (h : Pot c d) (hc : c ≤ 1000000000) {o : Bool} {ds : List Yv.D} (hp : D.pureL ds = true) (h1 : ds ≠ []) (h2 : ds.length ≤ 1000000) :
    ∃ (x : Yv.D) (d' : Yv.D), fm__law_of (k + 2) [d, .lst o ds] = .ok x [d', .lst o ds] ∧ x ∈ ds ∧ Pot (c + 1) d' := by
  have hl : 0 < ds.length := List.length_pos_iff.mpr h1
  obtain ⟨v, d', e, lv, P⟩ := t_take k h hc (u := ds.length) hl h2
  have ei : pIx (.lst o ds) (.int (v : Int)) = some ds[v] := by
    show pureO (atI ds (v : Int)) = _
    rw [atI_nat lv, List.getElem?_eq_getElem lv]
    have := pureL_get hp (i := v) (d := ds[v]) (List.getElem?_eq_getElem lv)
    simp [pureO, this]
  have np := h.np
  refine ⟨ds[v], d', ?_, List.getElem_mem lv, P⟩
  rw [f__law_of]
  simp [callM, somes, pureOut, finP, CR.nox, mSs, mSeq, mPass, mRetM, mRetN, mMove, mDo, mAsg, mIfS, mFor, mPar, allDt, mAndV, mOrV, mNotV, mBl, mTru, mAnd, mOr, mNot, mIf, mOp1, mOp2, mOpL, mL, mNil, mCons, mVar, mC, mCh, mVal, valA, mFz, mDt, mTup, mLst, mDct0, mCall, mPerm, permA, lentSlots_pure, back_pure, lentSlots_nil, lentSlots_dt, lentSlots_nm, lentAt_nil, lentAt_dt, lentAt_nm, mSl, mPart, mPart0, mItV, mItR1, mItR2, mItE, mMe, mMeEnd, mSto, resA, resAs, ofO, tgt, tgtL, D.frz, D.pure, D.pureL, D.frzL, mFail, mFailS, truD, List.replicate_succ, fLt, fLe, fGt, fGe, b__law_of, d__law_of, pLen, lenD, e, ei, np, back]
end Lw

set_option Elab.async false
set_option linter.all false
set_option maxRecDepth 100000
set_option maxHeartbeats 4000000
namespace Lw
open PySem L2 Yv Mt
theorem pop_at {ds : List Yv.D} (hp : D.pureL ds = true) {v : Nat} (h : v < ds.length) (h2 : ds.length ≤ 1000000) : pPop (.lst true ds) [.int (v : Int)] = some (some (.lst true (ds.eraseIdx v)), ds[v]) := by
  have e : seqIndex? (v : Int) ds.length = some v := by unfold seqIndex?; simp; omega
  have e2 : in62 (v : Int) = true := in62_of (by omega) (by omega)
  simp only [pPop, hp, e2, Bool.and_self, if_true, e, List.getElem?_eq_getElem h, Option.map_some]
theorem app_D {ds : List Yv.D} (hp : D.pureL ds = true) {x : Yv.D} (hx : x.pure = true) (h : ds.length ≤ 1000000) : pAppend (.lst true ds) [x] = some (some (.lst true (ds ++ [x])), .non) := by
  have e : Yv.sizeOk ds.length = true := by simp only [Yv.sizeOk, decide_eq_true_eq]; omega
  simp only [pAppend, hp, hx, e, Bool.and_self, if_true]
theorem t_some (k : Nat) {c : Nat} {d : Yv.D} (h : Pot c d) {o : Bool} {pool : List Yv.D} (hp : D.pureL pool = true) {m : Nat} (hm : m ≤ pool.length) (hc : c + m ≤ 1000000000) (h2 : pool.length ≤ 1000000) :
    ∃ (es rest : List Yv.D) (d' : Yv.D), fm__law_some (k + 2) [d, .lst o pool, .int (m : Int)] = .ok (.lst true es) [d', .lst o pool, .int (m : Int)] ∧ es.length = m ∧ (es ++ rest).Perm pool ∧ Pot (c + m) d' := by
  have np := h.np
  have er := rg1_nat m (by omega)
  have fz := frzL_of_pure hp
  obtain ⟨δ', g1, g2⟩ := for_inv (P := [0, 1, 2]) (mi := mItR1 (mL [(mVar 2)])) (t := .nm 5)
    (b := mSs [(mDo (mMe "list" "list" pAppend pAppend (mVar 4) (mL [mFz (mMe "list" "list" pPop pPop (mVar 3) (mL [mFz (mCall (fm__law_take (k + 1)) (mL [(mVar 0), (mOpL pLen (mL [(mVar 3)]))]))]))])))])
    (δ := [some d, some (.lst o pool), some (.int (m : Int)), some (.lst true pool), some (.lst true []), none]) (δ1 := [some d, some (.lst o pool), some (.int (m : Int)), some (.lst true pool), some (.lst true []), none]) (ds := intsD 0 m)
    (fun i δ => ∃ d' left es a, δ = [some d', some (.lst o pool), some (.int (m : Int)), some (.lst true left), some (.lst true es), a] ∧ Pot (c + i) d' ∧ es.length = i ∧ (es ++ left).Perm pool)
    (by simp [callM, somes, pureOut, finP, CR.nox, mSs, mSeq, mPass, mRetM, mRetN, mMove, mDo, mAsg, mIfS, mFor, mPar, allDt, mAndV, mOrV, mNotV, mBl, mTru, mAnd, mOr, mNot, mIf, mOp1, mOp2, mOpL, mL, mNil, mCons, mVar, mC, mCh, mVal, valA, mFz, mDt, mTup, mLst, mDct0, mCall, mPerm, permA, lentSlots_pure, back_pure, lentSlots_nil, lentSlots_dt, lentSlots_nm, lentAt_nil, lentAt_dt, lentAt_nm, mSl, mPart, mPart0, mItV, mItR1, mItR2, mItE, mMe, mMeEnd, mSto, resA, resAs, ofO, tgt, tgtL, D.frz, D.pure, D.pureL, D.frzL, mFail, mFailS, truD, List.replicate_succ, fLt, fLe, fGt, fGe, er]) ⟨d, pool, [], none, rfl, h, rfl, .refl _⟩ (by
      rintro i x δ w ⟨d', left, es, a, rfl, P, hl, pm⟩
      have hi : i < m := by
        have := (List.getElem?_eq_some_iff.mp w).1
        simpa [intsD] using this
      have ll := pm.length_eq
      rw [List.length_append, hl] at ll
      have hpe : D.pureL (es ++ left) = true := pureL_iff.mpr fun y my => pureL_iff.mp hp y (pm.mem_iff.mp my)
      have hpl : D.pureL left = true := pureL_iff.mpr fun y my => pureL_iff.mp hpe y (by simp [my])
      have hps : D.pureL es = true := pureL_iff.mpr fun y my => pureL_iff.mp hpe y (by simp [my])
      have np' := P.np
      obtain ⟨v, d2, e1, lv, P2⟩ := t_take k P (by omega) (u := left.length) (by omega) (by omega)
      have e2 := pop_at hpl lv (by omega)
      have hx := pureL_get hpl (i := v) (d := left[v]) (List.getElem?_eq_getElem lv)
      have e3 := app_D hps hx (by omega)
      have fx := frz_of_pure hx
      have pm2 : ((es ++ [left[v]]) ++ left.eraseIdx v).Perm pool := by
        refine List.Perm.trans ?_ pm
        rw [List.append_assoc]
        refine List.Perm.append_left es ?_
        rw [List.singleton_append]
        conv => rhs; rw [← List.take_append_drop v left, List.drop_eq_getElem_cons lv]
        rw [List.eraseIdx_eq_take_drop_succ]
        exact List.perm_middle.symm
      generalize left[v] = y at *
      generalize hq : left.eraseIdx v = l2 at *
      refine ⟨[some d', some (.lst o pool), some (.int (m : Int)), some (.lst true left), some (.lst true es), some x], [some d2, some (.lst o pool), some (.int (m : Int)), some (.lst true l2), some (.lst true (es ++ [y])), some x], by simp [callM, somes, pureOut, finP, CR.nox, mSs, mSeq, mPass, mRetM, mRetN, mMove, mDo, mAsg, mIfS, mFor, mPar, allDt, mAndV, mOrV, mNotV, mBl, mTru, mAnd, mOr, mNot, mIf, mOp1, mOp2, mOpL, mL, mNil, mCons, mVar, mC, mCh, mVal, valA, mFz, mDt, mTup, mLst, mDct0, mCall, mPerm, permA, lentSlots_pure, back_pure, lentSlots_nil, lentSlots_dt, lentSlots_nm, lentAt_nil, lentAt_dt, lentAt_nm, mSl, mPart, mPart0, mItV, mItR1, mItR2, mItE, mMe, mMeEnd, mSto, resA, resAs, ofO, tgt, tgtL, D.frz, D.pure, D.pureL, D.frzL, mFail, mFailS, truD, List.replicate_succ, fLt, fLe, fGt, fGe], ?_, d2, l2, es ++ [y], some x, rfl, by rw [← Nat.add_assoc]; exact P2, by simp [hl], pm2⟩
      simp [callM, somes, pureOut, finP, CR.nox, mSs, mSeq, mPass, mRetM, mRetN, mMove, mDo, mAsg, mIfS, mFor, mPar, allDt, mAndV, mOrV, mNotV, mBl, mTru, mAnd, mOr, mNot, mIf, mOp1, mOp2, mOpL, mL, mNil, mCons, mVar, mC, mCh, mVal, valA, mFz, mDt, mTup, mLst, mDct0, mCall, mPerm, permA, lentSlots_pure, back_pure, lentSlots_nil, lentSlots_dt, lentSlots_nm, lentAt_nil, lentAt_dt, lentAt_nm, mSl, mPart, mPart0, mItV, mItR1, mItR2, mItE, mMe, mMeEnd, mSto, resA, resAs, ofO, tgt, tgtL, D.frz, D.pure, D.pureL, D.frzL, mFail, mFailS, truD, List.replicate_succ, fLt, fLe, fGt, fGe, pLen, lenD, e1, e2, e3, fx, np', back, tyM])
  obtain ⟨d', left, es, a, rfl, P, hl, pm⟩ := g2
  rw [show (intsD 0 m).length = m by simp [intsD]] at P hl
  refine ⟨es, left, d', ?_, hl, pm, P⟩
  rw [f__law_some]
  have np' := P.np
  exact run_rt (δ := [some d', some (.lst o pool), some (.int (m : Int)), some (.lst true left), none, a]) (by simp [callM, somes, pureOut, finP, CR.nox, mSs, mSeq, mPass, mRetM, mRetN, mMove, mDo, mAsg, mIfS, mFor, mPar, allDt, mAndV, mOrV, mNotV, mBl, mTru, mAnd, mOr, mNot, mIf, mOp1, mOp2, mOpL, mL, mNil, mCons, mVar, mC, mCh, mVal, valA, mFz, mDt, mTup, mLst, mDct0, mCall, mPerm, permA, lentSlots_pure, back_pure, lentSlots_nil, lentSlots_dt, lentSlots_nm, lentAt_nil, lentAt_dt, lentAt_nm, mSl, mPart, mPart0, mItV, mItR1, mItR2, mItE, mMe, mMeEnd, mSto, resA, resAs, ofO, tgt, tgtL, D.frz, D.pure, D.pureL, D.frzL, mFail, mFailS, truD, List.replicate_succ, fLt, fLe, fGt, fGe, d__law_some]) (ss_nx (δ1 := [some d, some (.lst o pool), some (.int (m : Int)), some (.lst true pool), some (.lst true []), none]) (by simp [callM, somes, pureOut, finP, CR.nox, mSs, mSeq, mPass, mRetM, mRetN, mMove, mDo, mAsg, mIfS, mFor, mPar, allDt, mAndV, mOrV, mNotV, mBl, mTru, mAnd, mOr, mNot, mIf, mOp1, mOp2, mOpL, mL, mNil, mCons, mVar, mC, mCh, mVal, valA, mFz, mDt, mTup, mLst, mDct0, mCall, mPerm, permA, lentSlots_pure, back_pure, lentSlots_nil, lentSlots_dt, lentSlots_nm, lentAt_nil, lentAt_dt, lentAt_nm, mSl, mPart, mPart0, mItV, mItR1, mItR2, mItE, mMe, mMeEnd, mSto, resA, resAs, ofO, tgt, tgtL, D.frz, D.pure, D.pureL, D.frzL, mFail, mFailS, truD, List.replicate_succ, fLt, fLe, fGt, fGe, d__law_some, pLstOf, itS, itL, hp, fz, Yv.sizeOk])
    (ss_nx g1 (ss_rt (by simp [callM, somes, pureOut, finP, CR.nox, mSs, mSeq, mPass, mRetM, mRetN, mMove, mDo, mAsg, mIfS, mFor, mPar, allDt, mAndV, mOrV, mNotV, mBl, mTru, mAnd, mOr, mNot, mIf, mOp1, mOp2, mOpL, mL, mNil, mCons, mVar, mC, mCh, mVal, valA, mFz, mDt, mTup, mLst, mDct0, mCall, mPerm, permA, lentSlots_pure, back_pure, lentSlots_nil, lentSlots_dt, lentSlots_nm, lentAt_nil, lentAt_dt, lentAt_nm, mSl, mPart, mPart0, mItV, mItR1, mItR2, mItE, mMe, mMeEnd, mSto, resA, resAs, ofO, tgt, tgtL, D.frz, D.pure, D.pureL, D.frzL, mFail, mFailS, truD, List.replicate_succ, fLt, fLe, fGt, fGe])))) (by simp [callM, somes, pureOut, finP, CR.nox, mSs, mSeq, mPass, mRetM, mRetN, mMove, mDo, mAsg, mIfS, mFor, mPar, allDt, mAndV, mOrV, mNotV, mBl, mTru, mAnd, mOr, mNot, mIf, mOp1, mOp2, mOpL, mL, mNil, mCons, mVar, mC, mCh, mVal, valA, mFz, mDt, mTup, mLst, mDct0, mCall, mPerm, permA, lentSlots_pure, back_pure, lentSlots_nil, lentSlots_dt, lentSlots_nm, lentAt_nil, lentAt_dt, lentAt_nm, mSl, mPart, mPart0, mItV, mItR1, mItR2, mItE, mMe, mMeEnd, mSto, resA, resAs, ofO, tgt, tgtL, D.frz, D.pure, D.pureL, D.frzL, mFail, mFailS, truD, List.replicate_succ, fLt, fLe, fGt, fGe, d__law_some])
end Lw

set_option Elab.async false
set_option linter.all false
set_option maxRecDepth 100000
set_option maxHeartbeats 4000000
namespace Lw
open PySem L2 Yv Mt
def unI : Yv.D → Nat
  | .int i => i.toNat
  | _ => 0
theorem of_perm_nI {es : List Yv.D} {l : List Nat} (h : es.Perm (nI l)) : es = nI (es.map unI) ∧ (es.map unI).Perm l := by
  refine ⟨?_, ?_⟩
  · unfold nI
    rw [List.map_map]
    conv => lhs; rw [← List.map_id es]
    apply List.map_congr_left
    intro d m
    obtain ⟨x, _, rfl⟩ := nI_mem (h.mem_iff.mp m)
    simp [unI]
  · have := h.map unI
    have e : (nI l).map unI = l := by
      unfold nI; rw [List.map_map]; conv => rhs; rw [← List.map_id l]
      apply List.map_congr_left; intro x _; simp [unI]
    rwa [e] at this
theorem t__law_turn (k : Nat) {c : Nat} {d : Yv.D} (h : Pot c d) {n : Nat} (hn : n ≤ 1000) (hc : c ≤ 900000000) :
    ∃ (p : List Nat) (d' : Yv.D), fm__law_turn (k + 3) [d, .int (n : Int)] = .ok (TN p) [d', .int (n : Int)] ∧ IsT n p ∧ Pot (c + n) d' := by
  have np := h.np
  have e1 := rgL1 n (by omega)
  obtain ⟨es, rest, d', e2, hl, pm, P⟩ := t_some k h (o := true) (pool := nI (List.range n)) (nI_pure _) (m := n) (by simp [nI]) (by omega) (by simp [nI]; omega)
  have lr := pm.length_eq
  rw [List.length_append, hl, nI_len, List.length_range] at lr
  have : rest = [] := List.length_eq_zero_iff.mp (by omega)
  subst this
  rw [List.append_nil] at pm
  obtain ⟨ee, pm2⟩ := of_perm_nI pm
  generalize es.map unI = p at ee pm2
  subst ee
  refine ⟨p, d', ?_, IsT.of_perm pm2, P⟩
  have lc := lc_map (mi := mItV (mCall (fm__law_some (k + 2)) (mL [(mVar 0), (mOp1 pRgL1 (mVar 1)), (mVar 1)]))) (t := .nm 2) (tt := mYes) (te := mOpL pInt (mL [(mVar 2)])) (vs := [2]) (δ := [some d, some (.int (n : Int)), none]) (δ1 := [some d', some (.int (n : Int)), none]) (ds := nI p)
    id (by simp [callM, somes, pureOut, finP, CR.nox, mSs, mSeq, mPass, mRetM, mRetN, mMove, mDo, mAsg, mIfS, mFor, mPar, allDt, mAndV, mOrV, mNotV, mBl, mTru, mAnd, mOr, mNot, mIf, mOp1, mOp2, mOpL, mL, mNil, mCons, mVar, mC, mCh, mVal, valA, mFz, mDt, mTup, mLst, mDct0, mCall, mPerm, permA, lentSlots_pure, back_pure, lentSlots_nil, lentSlots_dt, lentSlots_nm, lentAt_nil, lentAt_dt, lentAt_nm, mSl, mPart, mPart0, mItV, mItR1, mItR2, mItE, mMe, mMeEnd, mSto, resA, resAs, ofO, tgt, tgtL, D.frz, D.pure, D.pureL, D.frzL, mFail, mFailS, truD, List.replicate_succ, fLt, fLe, fGt, fGe, nI_frz, nI_pure, itF, e1, e2, np, back]) rfl (by omega) (fun y m => by
      obtain ⟨x, mx, rfl⟩ := nI_mem m
      have np' := P.np
      simp [callM, somes, pureOut, finP, CR.nox, mSs, mSeq, mPass, mRetM, mRetN, mMove, mDo, mAsg, mIfS, mFor, mPar, allDt, mAndV, mOrV, mNotV, mBl, mTru, mAnd, mOr, mNot, mIf, mOp1, mOp2, mOpL, mL, mNil, mCons, mVar, mC, mCh, mVal, valA, mFz, mDt, mTup, mLst, mDct0, mCall, mPerm, permA, lentSlots_pure, back_pure, lentSlots_nil, lentSlots_dt, lentSlots_nm, lentAt_nil, lentAt_dt, lentAt_nm, mSl, mPart, mPart0, mItV, mItR1, mItR2, mItE, mMe, mMeEnd, mSto, resA, resAs, ofO, tgt, tgtL, D.frz, D.pure, D.pureL, D.frzL, mFail, mFailS, truD, List.replicate_succ, fLt, fLe, fGt, fGe, lcStep, others, wipeD, backD, mYes, List.range_succ, nI_frz, pInt])
  rw [List.map_id] at lc
  have np' := P.np
  rw [f__law_turn]
  simp only [mL] at lc
  simp [callM, somes, pureOut, finP, CR.nox, mSs, mSeq, mPass, mRetM, mRetN, mMove, mDo, mAsg, mIfS, mFor, mPar, allDt, mAndV, mOrV, mNotV, mBl, mTru, mAnd, mOr, mNot, mIf, mOp1, mOp2, mOpL, mL, mNil, mCons, mVar, mC, mCh, mVal, valA, mFz, mDt, mTup, mLst, mDct0, mCall, mPerm, permA, lentSlots_pure, back_pure, lentSlots_nil, lentSlots_dt, lentSlots_nm, lentAt_nil, lentAt_dt, lentAt_nm, mSl, mPart, mPart0, mItV, mItR1, mItR2, mItE, mMe, mMeEnd, mSto, resA, resAs, ofO, tgt, tgtL, D.frz, D.pure, D.pureL, D.frzL, mFail, mFailS, truD, List.replicate_succ, fLt, fLe, fGt, fGe, b__law_turn, d__law_turn, lc, tupOf_L, nI_pure, nI_frz]
theorem t__law_cells (k : Nat) (ns : List Int) (h : ns.length ≤ 63) : fm__law_cells (k + 1) [.scr ns, .int 3] = .ok (LS true (List.range (max 1 (min 3 ns.length)))) [.scr ns, .int 3] := by
  rw [f__law_cells]
  have e1 : pMinA [.int 3, .int (ns.length : Int)] = some (.int ((min 3 ns.length : Nat) : Int)) := by
    show some (Yv.D.int (if (ns.length : Int) < 3 then (ns.length : Int) else 3)) = _
    congr 2; split <;> omega
  have e2 : pMaxA [.int 1, .int ((min 3 ns.length : Nat) : Int)] = some (.int ((max 1 (min 3 ns.length) : Nat) : Int)) := by
    show some (Yv.D.int (if ((min 3 ns.length : Nat) : Int) > 1 then ((min 3 ns.length : Nat) : Int) else 1)) = _
    congr 2; split <;> omega
  have e3 := rgL1 (max 1 (min 3 ns.length)) (by omega)
  generalize max 1 (min 3 ns.length) = m2 at *
  generalize min 3 ns.length = m1 at *
  simp [callM, somes, pureOut, finP, CR.nox, mSs, mSeq, mPass, mRetM, mRetN, mMove, mDo, mAsg, mIfS, mFor, mPar, allDt, mAndV, mOrV, mNotV, mBl, mTru, mAnd, mOr, mNot, mIf, mOp1, mOp2, mOpL, mL, mNil, mCons, mVar, mC, mCh, mVal, valA, mFz, mDt, mTup, mLst, mDct0, mCall, mPerm, permA, lentSlots_pure, back_pure, lentSlots_nil, lentSlots_dt, lentSlots_nm, lentAt_nil, lentAt_dt, lentAt_nm, mSl, mPart, mPart0, mItV, mItR1, mItR2, mItE, mMe, mMeEnd, mSto, resA, resAs, ofO, tgt, tgtL, D.frz, D.pure, D.pureL, D.frzL, mFail, mFailS, truD, List.replicate_succ, fLt, fLe, fGt, fGe, b__law_cells, d__law_cells, pLen, lenD, e1, e2, e3]
theorem p10a : pPow (.int 10) (.int 60) = some (.int (10 ^ 60)) := by kernel_rfl
theorem p10b : pPow (.int (10 ^ 60)) (.int 5) = some (.int (10 ^ 300)) := by kernel_rfl
theorem p10c : pPow (.int 10) (.int 18) = some (.int (10 ^ 18)) := by kernel_rfl
theorem t__law_pot (k : Nat) (ns : List Int) (p : Nat) (hp : p ≤ 1000) (h0 : p < ns.length ∨ ns = []) : ∃ d, fm__law_pot (k + 1) [.scr ns, .int (p : Int)] = .ok d [.scr ns, .int (p : Int)] ∧ Pot 0 d := by
  have ec : ∃ cell : Int, (mIf (mBl (mOp2 (pOrd fLt gLt) (mVar 1) (mOpL pLen (mL [(mVar 0)])))) (mOp2 pIx (mVar 0) (mVar 1)) (mOp2 pAdd (mOp2 pAdd (mOp2 pMod (mOpL pInt (mL [(mOpL (lI fSum) (mL [(mSl (mVar 0) mPart0 (mPart (mC (.int 1))))]))])) (mC (.int 1000003))) (mOp2 pMul (mC (.int 5110)) (mVar 1))) (mC (.int 13136)))) [some (.scr ns), some (.int (p : Int)), none, none, none] = .ok (.dt (.int cell)) [some (.scr ns), some (.int (p : Int)), none, none, none] := by
    rcases h0 with h0 | rfl
    · have e : pIx (.scr ns) (.int (p : Int)) = some (.int ns[p]) := by
        show (atI ns (p : Int)).map Yv.D.int = _
        rw [atI_nat h0, List.getElem?_eq_getElem h0]; rfl
      exact ⟨ns[p], by simp [callM, somes, pureOut, finP, CR.nox, mSs, mSeq, mPass, mRetM, mRetN, mMove, mDo, mAsg, mIfS, mFor, mPar, allDt, mAndV, mOrV, mNotV, mBl, mTru, mAnd, mOr, mNot, mIf, mOp1, mOp2, mOpL, mL, mNil, mCons, mVar, mC, mCh, mVal, valA, mFz, mDt, mTup, mLst, mDct0, mCall, mPerm, permA, lentSlots_pure, back_pure, lentSlots_nil, lentSlots_dt, lentSlots_nm, lentAt_nil, lentAt_dt, lentAt_nm, mSl, mPart, mPart0, mItV, mItR1, mItR2, mItE, mMe, mMeEnd, mSto, resA, resAs, ofO, tgt, tgtL, D.frz, D.pure, D.pureL, D.frzL, mFail, mFailS, truD, List.replicate_succ, fLt, fLe, fGt, fGe, pOrd, pLen, lenD, e, h0]⟩
    · have e1 : pMul (.int 5110) (.int (p : Int)) = some (.int (5110 * (p : Int))) := pMulI (by omega) (by omega) (by omega) (by omega)
      exact ⟨_, by simp [callM, somes, pureOut, finP, CR.nox, mSs, mSeq, mPass, mRetM, mRetN, mMove, mDo, mAsg, mIfS, mFor, mPar, allDt, mAndV, mOrV, mNotV, mBl, mTru, mAnd, mOr, mNot, mIf, mOp1, mOp2, mOpL, mL, mNil, mCons, mVar, mC, mCh, mVal, valA, mFz, mDt, mTup, mLst, mDct0, mCall, mPerm, permA, lentSlots_pure, back_pure, lentSlots_nil, lentSlots_dt, lentSlots_nm, lentAt_nil, lentAt_dt, lentAt_nm, mSl, mPart, mPart0, mItV, mItR1, mItR2, mItE, mMe, mMeEnd, mSto, resA, resAs, ofO, tgt, tgtL, D.frz, D.pure, D.pureL, D.frzL, mFail, mFailS, truD, List.replicate_succ, fLt, fLe, fGt, fGe, pOrd, pLen, lenD, e1, pSl, lI, itL, intsOf, fSum, pInt, pMod, pAdd, cutD]; rfl⟩
  obtain ⟨cell, ec⟩ := ec
  have ea : pAbs [.int cell] = some (.int (cell.natAbs : Int)) := by
    show some (Yv.D.int (if cell < 0 then -cell else cell)) = _
    congr 2; split <;> omega
  have em : pMod (.int (cell.natAbs : Int)) (.int (10 ^ 300)) = some (.int ((cell.natAbs : Int) % 10 ^ 300)) := pModI (by decide)
  have m0 := Int.emod_nonneg (cell.natAbs : Int) (b := 10 ^ 300) (by decide)
  have m1 := Int.emod_lt_of_pos (cell.natAbs : Int) (b := 10 ^ 300) (by decide)
  generalize ho : (cell.natAbs : Int) % 10 ^ 300 = own at *
  have eb : pMul (.int own) (.int (if decide ((10 : Int) ^ 18 ≤ (cell.natAbs : Int)) = true then 1 else 0)) = some (.int (own * (if decide ((10 : Int) ^ 18 ≤ (cell.natAbs : Int)) = true then 1 else 0))) := by
    split <;> exact pMulI m0 (Int.lt_trans m1 (by decide)) (by decide) (by decide)
  have hb : 0 ≤ own * (if decide ((10 : Int) ^ 18 ≤ (cell.natAbs : Int)) = true then 1 else 0) ∧ own * (if decide ((10 : Int) ^ 18 ≤ (cell.natAbs : Int)) = true then 1 else 0) < 10 ^ 300 := by
    split
    · rw [Int.mul_one]; exact ⟨m0, m1⟩
    · rw [Int.mul_zero]; exact ⟨by decide, by decide⟩
  generalize hc : decide ((10 : Int) ^ 18 ≤ (cell.natAbs : Int)) = big at *
  generalize own * (if big = true then 1 else 0) = w at *
  have es : pMod (.int cell) (.int 2305843009213693951) = some (.int (cell % 2305843009213693951)) := pModI (by decide)
  have s0 := Int.emod_nonneg cell (b := 2305843009213693951) (by decide)
  have s1 := Int.emod_lt_of_pos cell (b := 2305843009213693951) (by decide)
  generalize cell % 2305843009213693951 = sm at *
  have f1 : pMul (.int sm) (.int 109379) = some (.int (sm * 109379)) := pMulI s0 (by omega) (by omega) (by omega)
  have f2 : pMul (.int 16829) (.int (p : Int)) = some (.int (16829 * (p : Int))) := pMulI (by omega) (by omega) (by omega) (by omega)
  have f3 : pMul (.int (16829 * (p : Int))) (.int (p : Int)) = some (.int (16829 * (p : Int) * (p : Int))) := pMulI (by omega) (by omega) (by omega) (by omega)
  have g1 : pAdd (.int (sm * 109379)) (.int (16829 * (p : Int) * (p : Int))) = some (.int (sm * 109379 + 16829 * (p : Int) * (p : Int))) := rfl
  generalize sm * 109379 + 16829 * (p : Int) * (p : Int) = y1 at *
  have g2 : pAdd (.int y1) (.int 4510) = some (.int (y1 + 4510)) := rfl
  generalize y1 + 4510 = y2 at *
  have g3 : pMod (.int y2) (.int 2305843009213693921) = some (.int (y2 % 2305843009213693921)) := pModI (by decide)
  have q0 := Int.emod_nonneg y2 (b := 2305843009213693921) (by decide)
  have q1 := Int.emod_lt_of_pos y2 (b := 2305843009213693921) (by decide)
  generalize y2 % 2305843009213693921 = q at *
  have eo : pOrd fGe gGe (.int (cell.natAbs : Int)) (.int (10 ^ 18)) = some (.bl big) := by rw [← hc]; rfl
  refine ⟨PotD w q 0, ?_, w, q, 0, rfl, hb.1, hb.2, q0, by omega, by omega, by omega⟩
  rw [f__law_pot]
  have a1 := p10a
  have a2 := p10b
  have a3 := p10c
  generalize (10 : Int) ^ 60 = t60 at *
  generalize (10 : Int) ^ 300 = t300 at *
  generalize (10 : Int) ^ 18 = t18 at *
  generalize (cell.natAbs : Int) = ab at *
  generalize sm * 109379 = z1 at *
  generalize 16829 * (p : Int) * (p : Int) = z2 at *
  generalize 16829 * (p : Int) = z3 at *
  exact run_rt (δ := [some (.scr ns), some (.int (p : Int)), some (.int cell), some (.int w), some (.int sm)]) (by simp [callM, somes, pureOut, finP, CR.nox, mSs, mSeq, mPass, mRetM, mRetN, mMove, mDo, mAsg, mIfS, mFor, mPar, allDt, mAndV, mOrV, mNotV, mBl, mTru, mAnd, mOr, mNot, mIf, mOp1, mOp2, mOpL, mL, mNil, mCons, mVar, mC, mCh, mVal, valA, mFz, mDt, mTup, mLst, mDct0, mCall, mPerm, permA, lentSlots_pure, back_pure, lentSlots_nil, lentSlots_dt, lentSlots_nm, lentAt_nil, lentAt_dt, lentAt_nm, mSl, mPart, mPart0, mItV, mItR1, mItR2, mItE, mMe, mMeEnd, mSto, resA, resAs, ofO, tgt, tgtL, D.frz, D.pure, D.pureL, D.frzL, mFail, mFailS, truD, List.replicate_succ, fLt, fLe, fGt, fGe, d__law_pot]) (ss_nx (δ1 := [some (.scr ns), some (.int (p : Int)), some (.int cell), none, none]) (by unfold mAsg mVal; simp only [d__law_pot, somes, List.map, List.replicate, List.cons_append, List.nil_append, List.length, ec]; simp [callM, somes, pureOut, finP, CR.nox, mSs, mSeq, mPass, mRetM, mRetN, mMove, mDo, mAsg, mIfS, mFor, mPar, allDt, mAndV, mOrV, mNotV, mBl, mTru, mAnd, mOr, mNot, mIf, mOp1, mOp2, mOpL, mL, mNil, mCons, mVar, mC, mCh, mVal, valA, mFz, mDt, mTup, mLst, mDct0, mCall, mPerm, permA, lentSlots_pure, back_pure, lentSlots_nil, lentSlots_dt, lentSlots_nm, lentAt_nil, lentAt_dt, lentAt_nm, mSl, mPart, mPart0, mItV, mItR1, mItR2, mItE, mMe, mMeEnd, mSto, resA, resAs, ofO, tgt, tgtL, D.frz, D.pure, D.pureL, D.frzL, mFail, mFailS, truD, List.replicate_succ, fLt, fLe, fGt, fGe])
    (ss_nx (δ1 := [some (.scr ns), some (.int (p : Int)), some (.int cell), some (.int w), none]) (by simp [callM, somes, pureOut, finP, CR.nox, mSs, mSeq, mPass, mRetM, mRetN, mMove, mDo, mAsg, mIfS, mFor, mPar, allDt, mAndV, mOrV, mNotV, mBl, mTru, mAnd, mOr, mNot, mIf, mOp1, mOp2, mOpL, mL, mNil, mCons, mVar, mC, mCh, mVal, valA, mFz, mDt, mTup, mLst, mDct0, mCall, mPerm, permA, lentSlots_pure, back_pure, lentSlots_nil, lentSlots_dt, lentSlots_nm, lentAt_nil, lentAt_dt, lentAt_nm, mSl, mPart, mPart0, mItV, mItR1, mItR2, mItE, mMe, mMeEnd, mSto, resA, resAs, ofO, tgt, tgtL, D.frz, D.pure, D.pureL, D.frzL, mFail, mFailS, truD, List.replicate_succ, fLt, fLe, fGt, fGe, pInt, ea, a1, a2, a3, em, eo, eb])
    (ss_nx (δ1 := [some (.scr ns), some (.int (p : Int)), some (.int cell), some (.int w), some (.int sm)]) (by simp [callM, somes, pureOut, finP, CR.nox, mSs, mSeq, mPass, mRetM, mRetN, mMove, mDo, mAsg, mIfS, mFor, mPar, allDt, mAndV, mOrV, mNotV, mBl, mTru, mAnd, mOr, mNot, mIf, mOp1, mOp2, mOpL, mL, mNil, mCons, mVar, mC, mCh, mVal, valA, mFz, mDt, mTup, mLst, mDct0, mCall, mPerm, permA, lentSlots_pure, back_pure, lentSlots_nil, lentSlots_dt, lentSlots_nm, lentAt_nil, lentAt_dt, lentAt_nm, mSl, mPart, mPart0, mItV, mItR1, mItR2, mItE, mMe, mMeEnd, mSto, resA, resAs, ofO, tgt, tgtL, D.frz, D.pure, D.pureL, D.frzL, mFail, mFailS, truD, List.replicate_succ, fLt, fLe, fGt, fGe, pInt, es])
    (ss_rt (by simp [callM, somes, pureOut, finP, CR.nox, mSs, mSeq, mPass, mRetM, mRetN, mMove, mDo, mAsg, mIfS, mFor, mPar, allDt, mAndV, mOrV, mNotV, mBl, mTru, mAnd, mOr, mNot, mIf, mOp1, mOp2, mOpL, mL, mNil, mCons, mVar, mC, mCh, mVal, valA, mFz, mDt, mTup, mLst, mDct0, mCall, mPerm, permA, lentSlots_pure, back_pure, lentSlots_nil, lentSlots_dt, lentSlots_nm, lentAt_nil, lentAt_dt, lentAt_nm, mSl, mPart, mPart0, mItV, mItR1, mItR2, mItE, mMe, mMeEnd, mSto, resA, resAs, ofO, tgt, tgtL, D.frz, D.pure, D.pureL, D.frzL, mFail, mFailS, truD, List.replicate_succ, fLt, fLe, fGt, fGe, pInt, f1, f2, f3, g1, g2, g3, Yv.sizeOk, PotD]))))) (by simp [callM, somes, pureOut, finP, CR.nox, mSs, mSeq, mPass, mRetM, mRetN, mMove, mDo, mAsg, mIfS, mFor, mPar, allDt, mAndV, mOrV, mNotV, mBl, mTru, mAnd, mOr, mNot, mIf, mOp1, mOp2, mOpL, mL, mNil, mCons, mVar, mC, mCh, mVal, valA, mFz, mDt, mTup, mLst, mDct0, mCall, mPerm, permA, lentSlots_pure, back_pure, lentSlots_nil, lentSlots_dt, lentSlots_nm, lentAt_nil, lentAt_dt, lentAt_nm, mSl, mPart, mPart0, mItV, mItR1, mItR2, mItE, mMe, mMeEnd, mSto, resA, resAs, ofO, tgt, tgtL, D.frz, D.pure, D.pureL, D.frzL, mFail, mFailS, truD, List.replicate_succ, fLt, fLe, fGt, fGe, d__law_pot])
end Lw

set_option Elab.async false
set_option linter.all false
set_option maxRecDepth 100000
set_option maxHeartbeats 4000000
namespace Lw
open PySem L2 Yv Mt
theorem findIdx_nat (l : List Nat) (x : Nat) (h : x ∈ l) : ((l.map fun (y : Nat) => PyData.int (y : Int)).findIdx? fun z => PyData.eqv z (.int (x : Int))) = some (l.idxOf x) := by
  induction l with
  | nil => simp at h
  | cons y l ih =>
    rw [List.map_cons, List.findIdx?_cons, eqv_nat, List.idxOf_cons]
    by_cases e : y = x
    · subst e; simp
    · have e2 : (y == x) = false := by simpa using e
      simp only [e, decide_false, e2, Bool.false_eq_true, if_false]
      rw [ih ((List.mem_cons.mp h).resolve_left fun q => e q.symm)]; rfl
theorem pIndexT_T {p : List Nat} (hs : ∀ x ∈ p, x < 10 ^ 9) {x : Nat} (h : x ∈ p) : pIndexT (TN p) [.int (x : Int)] = some (none, .int (p.idxOf x : Nat)) := by
  have d := dat_T 0 hs
  have e : (TN p).py = some (PT p) := d.py
  have s := d.shaped (by omega)
  show pIndex (TN p) [.int (x : Int)] = _
  unfold pIndex; dsimp only; rw [e, show (Yv.D.int (x : Int)).py = some (.int (x : Int)) from rfl]
  simp only [s, shaped_int, Bool.and_self, if_true, findIdx_nat p x h, Option.map_some]
def bkD (p : List Nat) (d : Yv.D) : Yv.D := .int (p.idxOf (unI d) : Nat)
theorem t__law_back (k : Nat) {n : Nat} {p : List Nat} (h : IsT n p) (h2 : n ≤ 24) : fm__law_back (k + 1) [TN p] = .ok (TN (bk p)) [TN p] := by
  rw [f__law_back]
  have er := rg1_nat n (by omega)
  have lc := lc_map (mi := mItR1 (mL [(mOpL pLen (mL [(mVar 0)]))])) (t := .nm 1) (tt := mYes) (te := mMe "list" "tuple" pIndexL pIndexT (mVar 0) (mL [mFz (mVar 1)])) (vs := [1]) (δ := [some (TN p), none]) (δ1 := [some (TN p), none]) (ds := nI (List.range n))
    (bkD p) (by simp [callM, somes, pureOut, finP, CR.nox, mSs, mSeq, mPass, mRetM, mRetN, mMove, mDo, mAsg, mIfS, mFor, mPar, allDt, mAndV, mOrV, mNotV, mBl, mTru, mAnd, mOr, mNot, mIf, mOp1, mOp2, mOpL, mL, mNil, mCons, mVar, mC, mCh, mVal, valA, mFz, mDt, mTup, mLst, mDct0, mCall, mPerm, permA, lentSlots_pure, back_pure, lentSlots_nil, lentSlots_dt, lentSlots_nm, lentAt_nil, lentAt_dt, lentAt_nm, mSl, mPart, mPart0, mItV, mItR1, mItR2, mItE, mMe, mMeEnd, mSto, resA, resAs, ofO, tgt, tgtL, D.frz, D.pure, D.pureL, D.frzL, mFail, mFailS, truD, List.replicate_succ, fLt, fLe, fGt, fGe, pLen, lenD, nI_len, h.len, er, intsD_eq]) rfl (by rw [nI_len]; simp; omega) (fun d m => by
      obtain ⟨x, mx, rfl⟩ := nI_mem m
      have e := pIndexT_T (p := p) (fun y my => by have := h.lt y my; omega) (h.mem (by simpa using mx))
      simp [callM, somes, pureOut, finP, CR.nox, mSs, mSeq, mPass, mRetM, mRetN, mMove, mDo, mAsg, mIfS, mFor, mPar, allDt, mAndV, mOrV, mNotV, mBl, mTru, mAnd, mOr, mNot, mIf, mOp1, mOp2, mOpL, mL, mNil, mCons, mVar, mC, mCh, mVal, valA, mFz, mDt, mTup, mLst, mDct0, mCall, mPerm, permA, lentSlots_pure, back_pure, lentSlots_nil, lentSlots_dt, lentSlots_nm, lentAt_nil, lentAt_dt, lentAt_nm, mSl, mPart, mPart0, mItV, mItR1, mItR2, mItE, mMe, mMeEnd, mSto, resA, resAs, ofO, tgt, tgtL, D.frz, D.pure, D.pureL, D.frzL, mFail, mFailS, truD, List.replicate_succ, fLt, fLe, fGt, fGe, lcStep, others, wipeD, backD, mYes, List.range_succ, nI_frz, e, bkD, unI, tyM])
  have e : (nI (List.range n)).map (bkD p) = nI (bk p) := by
    unfold nI bk; rw [List.map_map, List.map_map, h.len]; apply List.map_congr_left; intro x _; simp [bkD, unI]
  rw [e] at lc
  simp only [mL] at lc
  simp [callM, somes, pureOut, finP, CR.nox, mSs, mSeq, mPass, mRetM, mRetN, mMove, mDo, mAsg, mIfS, mFor, mPar, allDt, mAndV, mOrV, mNotV, mBl, mTru, mAnd, mOr, mNot, mIf, mOp1, mOp2, mOpL, mL, mNil, mCons, mVar, mC, mCh, mVal, valA, mFz, mDt, mTup, mLst, mDct0, mCall, mPerm, permA, lentSlots_pure, back_pure, lentSlots_nil, lentSlots_dt, lentSlots_nm, lentAt_nil, lentAt_dt, lentAt_nm, mSl, mPart, mPart0, mItV, mItR1, mItR2, mItE, mMe, mMeEnd, mSto, resA, resAs, ofO, tgt, tgtL, D.frz, D.pure, D.pureL, D.frzL, mFail, mFailS, truD, List.replicate_succ, fLt, fLe, fGt, fGe, b__law_back, d__law_back, lc, tupOf_L, nI_pure, nI_frz]
/-- the inner while -/
def mL3 (δ : Env') : Nat := match δ with
  | _ :: _ :: _ :: some (.lst _ l) :: _ => 1000 - l.length
  | _ => 0
theorem lr_while {n : Nat} {p : List Nat} (h : IsT n p) (h2 : n ≤ 24) {a : Nat} (ha : a < n) (l : List Nat) (L : Yv.D) :
    mWhile (mBl (mOp2 pNe (mOp2 pIx (mVar 0) (mOp2 pIx (mVar 3) (mOp1 pNeg (mC (.int 1))))) (mOp2 pIx (mVar 2) (mC (.int 0))))) (mSs [(mDo (mMe "list" "list" pAppend pAppend (mVar 3) (mL [mFz (mOp2 pIx (mVar 0) (mOp2 pIx (mVar 3) (mOp1 pNeg (mC (.int 1)))))])))]) 1000000
      [some (TN p), some L, some (LS true (a :: l)), some (LS true [a]), none] = .nx [some (TN p), some L, some (LS true (a :: l)), some (LS true (orb n p a)), none] := by
  obtain ⟨k1, k2, k3, k4⟩ := h.per_ok ha
  have e0 : pIx (LS true (a :: l)) (.int 0) = some (.int a) := pIx_L (l := a :: l) (i := 0) (by simp)
  obtain ⟨δ', g1, g2⟩ := while_inv (t := (mBl (mOp2 pNe (mOp2 pIx (mVar 0) (mOp2 pIx (mVar 3) (mOp1 pNeg (mC (.int 1))))) (mOp2 pIx (mVar 2) (mC (.int 0))))))
    (b := (mSs [(mDo (mMe "list" "list" pAppend pAppend (mVar 3) (mL [mFz (mOp2 pIx (mVar 0) (mOp2 pIx (mVar 3) (mOp1 pNeg (mC (.int 1)))))])))]))
    (fun δ => ∃ j, 1 ≤ j ∧ j ≤ per n p a ∧ δ = [some (TN p), some L, some (LS true (a :: l)), some (LS true (oj p a j)), none]) mL3
    (fun δ => δ = [some (TN p), some L, some (LS true (a :: l)), some (LS true (orb n p a)), none]) (by
      rintro δ ⟨j, j1, j2, rfl⟩
      have hne : oj p a j ≠ [] := fun e => by have := oj_len p a j; rw [e] at this; simp at this; omega
      have e1 : pIx (LS true (oj p a j)) (.int (-1)) = some (.int (it p (j - 1) a : Nat)) := by rw [pIx_last hne, oj_len, oj_at p a (by omega)]
      have e2 : pIx (TN p) (.int (it p (j - 1) a : Nat)) = some (.int (it p j a : Nat)) := by
        rw [pIx_T (by rw [h.len]; exact h.it_lt ha _)]
        have : j = j - 1 + 1 := by omega
        conv => rhs; rw [this]
        rfl
      have e3 := pNe_N (it p j a) a
      have e4 := app_L (oj p a j) (it p j a) (by rw [oj_len]; omega)
      generalize LS true (a :: l) = LL at *
      by_cases c : it p j a = a
      · have ej : j = per n p a := Classical.byContradiction fun z => k4 j (by omega) (by omega) c
        rw [c] at e3
        rw [c] at e2
        refine .inl ⟨[some (TN p), some L, some LL, some (LS true (oj p a j)), none], by simp [callM, somes, pureOut, finP, CR.nox, mSs, mSeq, mPass, mRetM, mRetN, mMove, mDo, mAsg, mIfS, mFor, mPar, allDt, mAndV, mOrV, mNotV, mBl, mTru, mAnd, mOr, mNot, mIf, mOp1, mOp2, mOpL, mL, mNil, mCons, mVar, mC, mCh, mVal, valA, mFz, mDt, mTup, mLst, mDct0, mCall, mPerm, permA, lentSlots_pure, back_pure, lentSlots_nil, lentSlots_dt, lentSlots_nm, lentAt_nil, lentAt_dt, lentAt_nm, mSl, mPart, mPart0, mItV, mItR1, mItR2, mItE, mMe, mMeEnd, mSto, resA, resAs, ofO, tgt, tgtL, D.frz, D.pure, D.pureL, D.frzL, mFail, mFailS, truD, List.replicate_succ, fLt, fLe, fGt, fGe, pNeg, e0, e1, e2, e3], ?_⟩
        rw [ej]; rfl
      · refine .inr ⟨[some (TN p), some L, some LL, some (LS true (oj p a j)), none], [some (TN p), some L, some LL, some (LS true (oj p a (j + 1))), none], by simp [callM, somes, pureOut, finP, CR.nox, mSs, mSeq, mPass, mRetM, mRetN, mMove, mDo, mAsg, mIfS, mFor, mPar, allDt, mAndV, mOrV, mNotV, mBl, mTru, mAnd, mOr, mNot, mIf, mOp1, mOp2, mOpL, mL, mNil, mCons, mVar, mC, mCh, mVal, valA, mFz, mDt, mTup, mLst, mDct0, mCall, mPerm, permA, lentSlots_pure, back_pure, lentSlots_nil, lentSlots_dt, lentSlots_nm, lentAt_nil, lentAt_dt, lentAt_nm, mSl, mPart, mPart0, mItV, mItR1, mItR2, mItE, mMe, mMeEnd, mSto, resA, resAs, ofO, tgt, tgtL, D.frz, D.pure, D.pureL, D.frzL, mFail, mFailS, truD, List.replicate_succ, fLt, fLe, fGt, fGe, pNeg, e0, e1, e2, e3, c], by rw [oj_succ]; simp [callM, somes, pureOut, finP, CR.nox, mSs, mSeq, mPass, mRetM, mRetN, mMove, mDo, mAsg, mIfS, mFor, mPar, allDt, mAndV, mOrV, mNotV, mBl, mTru, mAnd, mOr, mNot, mIf, mOp1, mOp2, mOpL, mL, mNil, mCons, mVar, mC, mCh, mVal, valA, mFz, mDt, mTup, mLst, mDct0, mCall, mPerm, permA, lentSlots_pure, back_pure, lentSlots_nil, lentSlots_dt, lentSlots_nm, lentAt_nil, lentAt_dt, lentAt_nm, mSl, mPart, mPart0, mItV, mItR1, mItR2, mItE, mMe, mMeEnd, mSto, resA, resAs, ofO, tgt, tgtL, D.frz, D.pure, D.pureL, D.frzL, mFail, mFailS, truD, List.replicate_succ, fLt, fLe, fGt, fGe, pNeg, e1, e2, e4, tyM], ?_, ?_⟩
        · refine ⟨j + 1, by omega, ?_, rfl⟩
          rcases Nat.lt_or_ge j (per n p a) with q | q
          · omega
          · have : j = per n p a := by omega
            rw [this] at c; exact absurd k3 c
        · simp only [mL3, nI_len, oj_len]; omega)
    1000000 [some (TN p), some L, some (LS true (a :: l)), some (LS true [a]), none] ⟨1, by omega, k1, rfl⟩ (by simp only [mL3, nI_len, List.length_cons, List.length_nil]; omega)
  rw [g1, g2]
def outD (r : List Nat) (d : Yv.D) : Option Yv.D := if unI d ∈ r then none else some d
theorem outD_nI (r l : List Nat) : (nI l).filterMap (outD r) = nI (l.filter fun x => decide (x ∉ r)) := by
  induction l with
  | nil => rfl
  | cons x l ih =>
    rw [nI_cons, List.filterMap_cons]
    have : outD r (.int (x : Int)) = if x ∈ r then none else some (.int (x : Int)) := by show (if (x : Int).toNat ∈ r then none else some (Yv.D.int (x : Int))) = _; rw [Int.toNat_natCast]
    rw [this]
    by_cases c : x ∈ r
    · rw [if_pos c, List.filter_cons_of_neg (by simpa using c)]; exact ih
    · rw [if_neg c, List.filter_cons_of_pos (by simpa using c), nI_cons, ← ih]
def mLen2 (δ : Env') : Nat := match δ with
  | _ :: _ :: some (.lst _ l) :: _ => l.length
  | _ => 0
theorem ext_R1 (R : List (List Nat)) (r : List Nat) (h : R.length ≤ 1000) : pExtend (LR true R) [.lst true [TN r]] = some (some (LR true (R ++ [r])), .non) := by
  have e : itS (.lst true [TN r]) = some [TN r] := by simp [itS, itL, itT, D.pureL, TP_pure]
  have e2 : (D.pureL (R.map fun r => TN r) && Yv.sizeOk ((R.map fun r => TN r).length + [TN r].length)) = true := by
    rw [LR_pure]; simp only [Bool.true_and, Yv.sizeOk, decide_eq_true_eq, List.length_map, List.length_singleton]; omega
  simp only [pExtend, e]
  rw [if_pos e2]; simp
theorem ext_R0 (R : List (List Nat)) (h : R.length ≤ 1000) : pExtend (LR true R) [.lst true []] = some (some (LR true R), .non) := by
  have e2 : (D.pureL (R.map fun r => TN r) && Yv.sizeOk ((R.map fun r => TN r).length + ([] : List Yv.D).length)) = true := by
    rw [LR_pure]; simp only [Bool.true_and, Yv.sizeOk, decide_eq_true_eq, List.length_map, List.length_nil]; omega
  simp only [pExtend, itS, itL, D.pureL, if_true, Option.or]
  rw [if_pos e2]; simp
end Lw

set_option Elab.async false
set_option linter.all false
set_option maxRecDepth 100000
set_option maxHeartbeats 4000000
namespace Lw
open PySem L2 Yv Mt
theorem t__law_rounds (k : Nat) {n : Nat} {p : List Nat} (h : IsT n p) (h2 : n ≤ 24) : fm__law_rounds (k + 1) [TN p] = .ok (LR true (rds n p)) [TN p] := by
  rw [f__law_rounds]
  have er := rgL1 n (by omega)
  unfold b__law_rounds
  generalize hb : (mSs [(mAsg [0] (.nm 3) (mLst (mL [mFz (mOp2 pIx (mVar 2) (mC (.int 0)))]))), _, _, _] : Ms) = body
  obtain ⟨δ', g1, g2⟩ := while_inv (t := mBl (mOp2 pNe (mVar 2) (mLst (mL [])))) (b := body)
    (fun δ => ∃ R l f x3, δ = [some (TN p), some (LR true R), some (LS true l), x3, none] ∧ (∀ x ∈ l, x < n) ∧ l.length ≤ f ∧ R.length + f ≤ n ∧ R ++ rdsW n p f l = rds n p) mLen2
    (fun δ => ∃ x2 x3, δ = [some (TN p), some (LR true (rds n p)), x2, x3, none]) (by
      rintro δ ⟨R, l, f, x3, rfl, hl, hf, hR, hE⟩
      have en : pNe (LS true l) (.lst true []) = _ := pNe_L (o := true) (o' := true) (a := l) (b := []) (fun x m => by have := hl x m; omega) (by simp)
      cases l with
      | nil =>
        refine .inl ⟨[some (TN p), some (LR true R), some (LS true []), x3, none], by simp only [decide_true, Bool.not_true] at en; generalize LS true ([] : List Nat) = LN at *; simp [callM, somes, pureOut, finP, CR.nox, mSs, mSeq, mPass, mRetM, mRetN, mMove, mDo, mAsg, mIfS, mFor, mPar, allDt, mAndV, mOrV, mNotV, mBl, mTru, mAnd, mOr, mNot, mIf, mOp1, mOp2, mOpL, mL, mNil, mCons, mVar, mC, mCh, mVal, valA, mFz, mDt, mTup, mLst, mDct0, mCall, mPerm, permA, lentSlots_pure, back_pure, lentSlots_nil, lentSlots_dt, lentSlots_nm, lentAt_nil, lentAt_dt, lentAt_nm, mSl, mPart, mPart0, mItV, mItR1, mItR2, mItE, mMe, mMeEnd, mSto, resA, resAs, ofO, tgt, tgtL, D.frz, D.pure, D.pureL, D.frzL, mFail, mFailS, truD, List.replicate_succ, fLt, fLe, fGt, fGe, en, Yv.sizeOk], some (LS true []), x3, ?_⟩
        have : rdsW n p f [] = [] := by cases f <;> rfl
        rw [this, List.append_nil] at hE
        rw [hE]
      | cons a l =>
        have ha := hl a (by simp)
        cases f with
        | zero => simp at hf
        | succ f =>
          simp only [reduceCtorEq, decide_false, Bool.not_false] at en
          rw [rdsW] at hE
          have wl := lr_while h h2 ha l (LR true R)
          have e0 : pIx (LS true (a :: l)) (.int 0) = some (.int a) := pIx_L (l := a :: l) (i := 0) (by simp)
          have self := orb_self h ha
          have ho : (orb n p a).length ≤ 24 := by rw [orb_len]; have := (h.per_ok ha).2.1; omega
          have lc := lc_filt (mi := mItV (mVar 2)) (t := .nm 4) (tt := mBl (mOp2 pNotIn (mVar 4) (mVar 3))) (te := mVar 4) (vs := [4]) (δ := [some (TN p), some (LR true R), some (LS true (a :: l)), some (LS true (orb n p a)), none]) (δ1 := [some (TN p), some (LR true R), some (LS false (a :: l)), some (LS true (orb n p a)), none]) (ds := nI (a :: l))
            (outD (orb n p a)) (by simp [callM, somes, pureOut, finP, CR.nox, mSs, mSeq, mPass, mRetM, mRetN, mMove, mDo, mAsg, mIfS, mFor, mPar, allDt, mAndV, mOrV, mNotV, mBl, mTru, mAnd, mOr, mNot, mIf, mOp1, mOp2, mOpL, mL, mNil, mCons, mVar, mC, mCh, mVal, valA, mFz, mDt, mTup, mLst, mDct0, mCall, mPerm, permA, lentSlots_pure, back_pure, lentSlots_nil, lentSlots_dt, lentSlots_nm, lentAt_nil, lentAt_dt, lentAt_nm, mSl, mPart, mPart0, mItV, mItR1, mItR2, mItE, mMe, mMeEnd, mSto, resA, resAs, ofO, tgt, tgtL, D.frz, D.pure, D.pureL, D.frzL, mFail, mFailS, truD, List.replicate_succ, fLt, fLe, fGt, fGe, nI_frz, nI_pure, itF]) rfl (by rw [nI_len]; simp only [List.length_cons] at hf ⊢; omega) (fun d m => by
              obtain ⟨x, mx, rfl⟩ := nI_mem m
              have e1 := pNotIn_L (o := true) (l := orb n p a) (x := x) (fun y my => by have := orb_lt h ha y my; omega)
              by_cases c : x ∈ orb n p a
              · simp [callM, somes, pureOut, finP, CR.nox, mSs, mSeq, mPass, mRetM, mRetN, mMove, mDo, mAsg, mIfS, mFor, mPar, allDt, mAndV, mOrV, mNotV, mBl, mTru, mAnd, mOr, mNot, mIf, mOp1, mOp2, mOpL, mL, mNil, mCons, mVar, mC, mCh, mVal, valA, mFz, mDt, mTup, mLst, mDct0, mCall, mPerm, permA, lentSlots_pure, back_pure, lentSlots_nil, lentSlots_dt, lentSlots_nm, lentAt_nil, lentAt_dt, lentAt_nm, mSl, mPart, mPart0, mItV, mItR1, mItR2, mItE, mMe, mMeEnd, mSto, resA, resAs, ofO, tgt, tgtL, D.frz, D.pure, D.pureL, D.frzL, mFail, mFailS, truD, List.replicate_succ, fLt, fLe, fGt, fGe, lcStep, others, wipeD, backD, List.range_succ, e1, c, outD, unI]
              · simp [callM, somes, pureOut, finP, CR.nox, mSs, mSeq, mPass, mRetM, mRetN, mMove, mDo, mAsg, mIfS, mFor, mPar, allDt, mAndV, mOrV, mNotV, mBl, mTru, mAnd, mOr, mNot, mIf, mOp1, mOp2, mOpL, mL, mNil, mCons, mVar, mC, mCh, mVal, valA, mFz, mDt, mTup, mLst, mDct0, mCall, mPerm, permA, lentSlots_pure, back_pure, lentSlots_nil, lentSlots_dt, lentSlots_nm, lentAt_nil, lentAt_dt, lentAt_nm, mSl, mPart, mPart0, mItV, mItR1, mItR2, mItE, mMe, mMeEnd, mSto, resA, resAs, ofO, tgt, tgtL, D.frz, D.pure, D.pureL, D.frzL, mFail, mFailS, truD, List.replicate_succ, fLt, fLe, fGt, fGe, lcStep, others, wipeD, backD, List.range_succ, e1, c, outD, unI])
          rw [outD_nI, List.filter_cons_of_neg (by simpa using self)] at lc
          have hfl : ∀ x ∈ l.filter (fun x => decide (x ∉ orb n p a)), x < n := fun x m => hl x (by simp [(List.mem_filter.mp m).1])
          have hll : (l.filter fun x => decide (x ∉ orb n p a)).length ≤ l.length := List.length_filter_le _ _
          generalize hL : l.filter (fun x => decide (x ∉ orb n p a)) = l2 at *
          generalize hLL : LS true (a :: l) = LL at *
          simp only [List.length_cons] at hf
          by_cases c : 1 < (orb n p a).length
          · rw [if_pos c, ← List.append_assoc] at hE
            have lc2 := lc_map (mi := mItV (mVar 3)) (t := .nm 4) (tt := mYes) (te := mOpL pInt (mL [(mVar 4)])) (vs := [4]) (δ := [some (TN p), some (LR true R), some (LS true l2), some (LS true (orb n p a)), none]) (δ1 := [some (TN p), some (LR true R), some (LS true l2), some (LS false (orb n p a)), none]) (ds := nI (orb n p a))
              id (by simp [callM, somes, pureOut, finP, CR.nox, mSs, mSeq, mPass, mRetM, mRetN, mMove, mDo, mAsg, mIfS, mFor, mPar, allDt, mAndV, mOrV, mNotV, mBl, mTru, mAnd, mOr, mNot, mIf, mOp1, mOp2, mOpL, mL, mNil, mCons, mVar, mC, mCh, mVal, valA, mFz, mDt, mTup, mLst, mDct0, mCall, mPerm, permA, lentSlots_pure, back_pure, lentSlots_nil, lentSlots_dt, lentSlots_nm, lentAt_nil, lentAt_dt, lentAt_nm, mSl, mPart, mPart0, mItV, mItR1, mItR2, mItE, mMe, mMeEnd, mSto, resA, resAs, ofO, tgt, tgtL, D.frz, D.pure, D.pureL, D.frzL, mFail, mFailS, truD, List.replicate_succ, fLt, fLe, fGt, fGe, nI_frz, nI_pure, itF]) rfl (by rw [nI_len]; omega) (fun d m => by
                obtain ⟨x, mx, rfl⟩ := nI_mem m
                simp [callM, somes, pureOut, finP, CR.nox, mSs, mSeq, mPass, mRetM, mRetN, mMove, mDo, mAsg, mIfS, mFor, mPar, allDt, mAndV, mOrV, mNotV, mBl, mTru, mAnd, mOr, mNot, mIf, mOp1, mOp2, mOpL, mL, mNil, mCons, mVar, mC, mCh, mVal, valA, mFz, mDt, mTup, mLst, mDct0, mCall, mPerm, permA, lentSlots_pure, back_pure, lentSlots_nil, lentSlots_dt, lentSlots_nm, lentAt_nil, lentAt_dt, lentAt_nm, mSl, mPart, mPart0, mItV, mItR1, mItR2, mItE, mMe, mMeEnd, mSto, resA, resAs, ofO, tgt, tgtL, D.frz, D.pure, D.pureL, D.frzL, mFail, mFailS, truD, List.replicate_succ, fLt, fLe, fGt, fGe, lcStep, others, wipeD, backD, mYes, List.range_succ, pInt])
            rw [List.map_id] at lc2
            have ex := ext_R1 R (orb n p a) (by omega)
            simp only [mL] at lc2
            have eg : pOrd fGt gGt (.int ((orb n p a).length : Nat)) (.int 1) = some (.bl true) := by simp only [pOrd, fGt]; congr 2; simp only [decide_eq_true_eq]; omega
            have el := pLen_L true (orb n p a)
            generalize orb n p a = ob at *
            refine .inr ⟨[some (TN p), some (LR true R), some LL, x3, none], [some (TN p), some (LR true (R ++ [ob])), some (LS true l2), some (LS false ob), none], by simp [callM, somes, pureOut, finP, CR.nox, mSs, mSeq, mPass, mRetM, mRetN, mMove, mDo, mAsg, mIfS, mFor, mPar, allDt, mAndV, mOrV, mNotV, mBl, mTru, mAnd, mOr, mNot, mIf, mOp1, mOp2, mOpL, mL, mNil, mCons, mVar, mC, mCh, mVal, valA, mFz, mDt, mTup, mLst, mDct0, mCall, mPerm, permA, lentSlots_pure, back_pure, lentSlots_nil, lentSlots_dt, lentSlots_nm, lentAt_nil, lentAt_dt, lentAt_nm, mSl, mPart, mPart0, mItV, mItR1, mItR2, mItE, mMe, mMeEnd, mSto, resA, resAs, ofO, tgt, tgtL, D.frz, D.pure, D.pureL, D.frzL, mFail, mFailS, truD, List.replicate_succ, fLt, fLe, fGt, fGe, en, Yv.sizeOk], ?_, ⟨R ++ [ob], l2, f, _, rfl, hfl, by omega, by simp; omega, hE⟩, ?_⟩
            · subst hb
              refine ss_nx (δ1 := [some (TN p), some (LR true R), some LL, some (LS true [a]), none]) (by simp [callM, somes, pureOut, finP, CR.nox, mSs, mSeq, mPass, mRetM, mRetN, mMove, mDo, mAsg, mIfS, mFor, mPar, allDt, mAndV, mOrV, mNotV, mBl, mTru, mAnd, mOr, mNot, mIf, mOp1, mOp2, mOpL, mL, mNil, mCons, mVar, mC, mCh, mVal, valA, mFz, mDt, mTup, mLst, mDct0, mCall, mPerm, permA, lentSlots_pure, back_pure, lentSlots_nil, lentSlots_dt, lentSlots_nm, lentAt_nil, lentAt_dt, lentAt_nm, mSl, mPart, mPart0, mItV, mItR1, mItR2, mItE, mMe, mMeEnd, mSto, resA, resAs, ofO, tgt, tgtL, D.frz, D.pure, D.pureL, D.frzL, mFail, mFailS, truD, List.replicate_succ, fLt, fLe, fGt, fGe, e0, Yv.sizeOk, nI_cons, nI_nil]) (ss_nx wl (ss_nx (δ1 := [some (TN p), some (LR true R), some (LS true l2), some (LS true ob), none]) (by simp [callM, somes, pureOut, finP, CR.nox, mSs, mSeq, mPass, mRetM, mRetN, mMove, mDo, mAsg, mIfS, mFor, mPar, allDt, mAndV, mOrV, mNotV, mBl, mTru, mAnd, mOr, mNot, mIf, mOp1, mOp2, mOpL, mL, mNil, mCons, mVar, mC, mCh, mVal, valA, mFz, mDt, mTup, mLst, mDct0, mCall, mPerm, permA, lentSlots_pure, back_pure, lentSlots_nil, lentSlots_dt, lentSlots_nm, lentAt_nil, lentAt_dt, lentAt_nm, mSl, mPart, mPart0, mItV, mItR1, mItR2, mItE, mMe, mMeEnd, mSto, resA, resAs, ofO, tgt, tgtL, D.frz, D.pure, D.pureL, D.frzL, mFail, mFailS, truD, List.replicate_succ, fLt, fLe, fGt, fGe, lc]) (ss_nx (δ1 := [some (TN p), some (LR true (R ++ [ob])), some (LS true l2), some (LS false ob), none]) ?_ rfl)))
              simp [callM, somes, pureOut, finP, CR.nox, mSs, mSeq, mPass, mRetM, mRetN, mMove, mDo, mAsg, mIfS, mFor, mPar, allDt, mAndV, mOrV, mNotV, mBl, mTru, mAnd, mOr, mNot, mIf, mOp1, mOp2, mOpL, mL, mNil, mCons, mVar, mC, mCh, mVal, valA, mFz, mDt, mTup, mLst, mDct0, mCall, mPerm, permA, lentSlots_pure, back_pure, lentSlots_nil, lentSlots_dt, lentSlots_nm, lentAt_nil, lentAt_dt, lentAt_nm, mSl, mPart, mPart0, mItV, mItR1, mItR2, mItE, mMe, mMeEnd, mSto, resA, resAs, ofO, tgt, tgtL, D.frz, D.pure, D.pureL, D.frzL, mFail, mFailS, truD, List.replicate_succ, fLt, fLe, fGt, fGe, el, eg, lc2, tupOf_L, Yv.sizeOk, ex, tyM, nI_frz]
            · subst hLL; simp only [mLen2, nI_len, List.length_cons]; omega
          · rw [if_neg c] at hE
            have ex := ext_R0 R (by omega)
            have eg : pOrd fGt gGt (.int ((orb n p a).length : Nat)) (.int 1) = some (.bl false) := by simp only [pOrd, fGt]; congr 2; simp only [decide_eq_false_iff_not]; omega
            have el := pLen_L true (orb n p a)
            generalize orb n p a = ob at *
            refine .inr ⟨[some (TN p), some (LR true R), some LL, x3, none], [some (TN p), some (LR true R), some (LS true l2), some (LS true ob), none], by simp [callM, somes, pureOut, finP, CR.nox, mSs, mSeq, mPass, mRetM, mRetN, mMove, mDo, mAsg, mIfS, mFor, mPar, allDt, mAndV, mOrV, mNotV, mBl, mTru, mAnd, mOr, mNot, mIf, mOp1, mOp2, mOpL, mL, mNil, mCons, mVar, mC, mCh, mVal, valA, mFz, mDt, mTup, mLst, mDct0, mCall, mPerm, permA, lentSlots_pure, back_pure, lentSlots_nil, lentSlots_dt, lentSlots_nm, lentAt_nil, lentAt_dt, lentAt_nm, mSl, mPart, mPart0, mItV, mItR1, mItR2, mItE, mMe, mMeEnd, mSto, resA, resAs, ofO, tgt, tgtL, D.frz, D.pure, D.pureL, D.frzL, mFail, mFailS, truD, List.replicate_succ, fLt, fLe, fGt, fGe, en, Yv.sizeOk], ?_, ⟨R, l2, f, _, rfl, hfl, by omega, by omega, hE⟩, ?_⟩
            · subst hb
              refine ss_nx (δ1 := [some (TN p), some (LR true R), some LL, some (LS true [a]), none]) (by simp [callM, somes, pureOut, finP, CR.nox, mSs, mSeq, mPass, mRetM, mRetN, mMove, mDo, mAsg, mIfS, mFor, mPar, allDt, mAndV, mOrV, mNotV, mBl, mTru, mAnd, mOr, mNot, mIf, mOp1, mOp2, mOpL, mL, mNil, mCons, mVar, mC, mCh, mVal, valA, mFz, mDt, mTup, mLst, mDct0, mCall, mPerm, permA, lentSlots_pure, back_pure, lentSlots_nil, lentSlots_dt, lentSlots_nm, lentAt_nil, lentAt_dt, lentAt_nm, mSl, mPart, mPart0, mItV, mItR1, mItR2, mItE, mMe, mMeEnd, mSto, resA, resAs, ofO, tgt, tgtL, D.frz, D.pure, D.pureL, D.frzL, mFail, mFailS, truD, List.replicate_succ, fLt, fLe, fGt, fGe, e0, Yv.sizeOk, nI_cons, nI_nil]) (ss_nx wl (ss_nx (δ1 := [some (TN p), some (LR true R), some (LS true l2), some (LS true ob), none]) (by simp [callM, somes, pureOut, finP, CR.nox, mSs, mSeq, mPass, mRetM, mRetN, mMove, mDo, mAsg, mIfS, mFor, mPar, allDt, mAndV, mOrV, mNotV, mBl, mTru, mAnd, mOr, mNot, mIf, mOp1, mOp2, mOpL, mL, mNil, mCons, mVar, mC, mCh, mVal, valA, mFz, mDt, mTup, mLst, mDct0, mCall, mPerm, permA, lentSlots_pure, back_pure, lentSlots_nil, lentSlots_dt, lentSlots_nm, lentAt_nil, lentAt_dt, lentAt_nm, mSl, mPart, mPart0, mItV, mItR1, mItR2, mItE, mMe, mMeEnd, mSto, resA, resAs, ofO, tgt, tgtL, D.frz, D.pure, D.pureL, D.frzL, mFail, mFailS, truD, List.replicate_succ, fLt, fLe, fGt, fGe, lc]) (ss_nx (δ1 := [some (TN p), some (LR true R), some (LS true l2), some (LS true ob), none]) ?_ rfl)))
              simp [callM, somes, pureOut, finP, CR.nox, mSs, mSeq, mPass, mRetM, mRetN, mMove, mDo, mAsg, mIfS, mFor, mPar, allDt, mAndV, mOrV, mNotV, mBl, mTru, mAnd, mOr, mNot, mIf, mOp1, mOp2, mOpL, mL, mNil, mCons, mVar, mC, mCh, mVal, valA, mFz, mDt, mTup, mLst, mDct0, mCall, mPerm, permA, lentSlots_pure, back_pure, lentSlots_nil, lentSlots_dt, lentSlots_nm, lentAt_nil, lentAt_dt, lentAt_nm, mSl, mPart, mPart0, mItV, mItR1, mItR2, mItE, mMe, mMeEnd, mSto, resA, resAs, ofO, tgt, tgtL, D.frz, D.pure, D.pureL, D.frzL, mFail, mFailS, truD, List.replicate_succ, fLt, fLe, fGt, fGe, el, eg, Yv.sizeOk, ex, tyM]
            · subst hLL; simp only [mLen2, nI_len, List.length_cons]; omega)
    1000000 [some (TN p), some (LR true []), some (LS true (List.range n)), none, none] ⟨[], List.range n, n, none, rfl, fun x m => by simpa using m, by simp, by simp, by rw [List.nil_append, rdsW_all]⟩ (by simp only [mLen2, nI_len, List.length_range]; omega)
  obtain ⟨x2, x3, rfl⟩ := g2
  exact run_rt (δ := [some (TN p), none, x2, x3, none]) (by simp [callM, somes, pureOut, finP, CR.nox, mSs, mSeq, mPass, mRetM, mRetN, mMove, mDo, mAsg, mIfS, mFor, mPar, allDt, mAndV, mOrV, mNotV, mBl, mTru, mAnd, mOr, mNot, mIf, mOp1, mOp2, mOpL, mL, mNil, mCons, mVar, mC, mCh, mVal, valA, mFz, mDt, mTup, mLst, mDct0, mCall, mPerm, permA, lentSlots_pure, back_pure, lentSlots_nil, lentSlots_dt, lentSlots_nm, lentAt_nil, lentAt_dt, lentAt_nm, mSl, mPart, mPart0, mItV, mItR1, mItR2, mItE, mMe, mMeEnd, mSto, resA, resAs, ofO, tgt, tgtL, D.frz, D.pure, D.pureL, D.frzL, mFail, mFailS, truD, List.replicate_succ, fLt, fLe, fGt, fGe, d__law_rounds, nI_pure]) (ss_nx (δ1 := [some (TN p), some (LR true []), some (LS true (List.range n)), none, none]) (by simp [callM, somes, pureOut, finP, CR.nox, mSs, mSeq, mPass, mRetM, mRetN, mMove, mDo, mAsg, mIfS, mFor, mPar, allDt, mAndV, mOrV, mNotV, mBl, mTru, mAnd, mOr, mNot, mIf, mOp1, mOp2, mOpL, mL, mNil, mCons, mVar, mC, mCh, mVal, valA, mFz, mDt, mTup, mLst, mDct0, mCall, mPerm, permA, lentSlots_pure, back_pure, lentSlots_nil, lentSlots_dt, lentSlots_nm, lentAt_nil, lentAt_dt, lentAt_nm, mSl, mPart, mPart0, mItV, mItR1, mItR2, mItE, mMe, mMeEnd, mSto, resA, resAs, ofO, tgt, tgtL, D.frz, D.pure, D.pureL, D.frzL, mFail, mFailS, truD, List.replicate_succ, fLt, fLe, fGt, fGe, d__law_rounds, pLen, lenD, nI_len, h.len, er, Yv.sizeOk]) (ss_nx g1 (ss_rt (by simp [callM, somes, pureOut, finP, CR.nox, mSs, mSeq, mPass, mRetM, mRetN, mMove, mDo, mAsg, mIfS, mFor, mPar, allDt, mAndV, mOrV, mNotV, mBl, mTru, mAnd, mOr, mNot, mIf, mOp1, mOp2, mOpL, mL, mNil, mCons, mVar, mC, mCh, mVal, valA, mFz, mDt, mTup, mLst, mDct0, mCall, mPerm, permA, lentSlots_pure, back_pure, lentSlots_nil, lentSlots_dt, lentSlots_nm, lentAt_nil, lentAt_dt, lentAt_nm, mSl, mPart, mPart0, mItV, mItR1, mItR2, mItE, mMe, mMeEnd, mSto, resA, resAs, ofO, tgt, tgtL, D.frz, D.pure, D.pureL, D.frzL, mFail, mFailS, truD, List.replicate_succ, fLt, fLe, fGt, fGe])))) (by simp [callM, somes, pureOut, finP, CR.nox, mSs, mSeq, mPass, mRetM, mRetN, mMove, mDo, mAsg, mIfS, mFor, mPar, allDt, mAndV, mOrV, mNotV, mBl, mTru, mAnd, mOr, mNot, mIf, mOp1, mOp2, mOpL, mL, mNil, mCons, mVar, mC, mCh, mVal, valA, mFz, mDt, mTup, mLst, mDct0, mCall, mPerm, permA, lentSlots_pure, back_pure, lentSlots_nil, lentSlots_dt, lentSlots_nm, lentAt_nil, lentAt_dt, lentAt_nm, mSl, mPart, mPart0, mItV, mItR1, mItR2, mItE, mMe, mMeEnd, mSto, resA, resAs, ofO, tgt, tgtL, D.frz, D.pure, D.pureL, D.frzL, mFail, mFailS, truD, List.replicate_succ, fLt, fLe, fGt, fGe, d__law_rounds])
end Lw

set_option Elab.async false
set_option linter.all false
set_option maxRecDepth 100000
set_option maxHeartbeats 4000000
namespace Lw
open PySem L2 Yv Mt
theorem cut_hi {α : Type} (xs : List α) (i : Nat) : cutD xs none (some (i : Int)) = xs.take i := by
  unfold cutD; rw [HT.sIx_none, HT.sIx_nat, List.drop_zero, Nat.sub_zero]
  rcases Nat.le_total i xs.length with h | h
  · rw [Nat.min_eq_left h]
  · rw [Nat.min_eq_right h, List.take_of_length_le (Nat.le_refl _), List.take_of_length_le h]
theorem cut_lo {α : Type} (xs : List α) (i : Nat) : cutD xs (some (i : Int)) none = xs.drop i := by
  unfold cutD; rw [HT.sIx_none, HT.sIx_nat]
  rcases Nat.le_total i xs.length with h | h
  · rw [Nat.min_eq_left h, List.take_of_length_le (by simp)]
  · rw [Nat.min_eq_right h, List.drop_of_length_le (Nat.le_refl _), List.drop_of_length_le h, List.take_nil]
theorem cut_last {α : Type} (xs : List α) : cutD xs none (some (-1)) = xs.take (xs.length - 1) := by
  unfold cutD; rw [HT.sIx_none, List.drop_zero, Nat.sub_zero]
  have : HT.sIx xs.length xs.length (some (-1)) = xs.length - 1 := by
    unfold HT.sIx; simp only []; rw [if_pos (by omega)]; omega
  rw [this]
/-- a value that is_turn may be asked of -/
structure Val (y : Yv.D) : Prop where
  pure : y.pure = true
  noS : noS y = true
  items : ∀ ds, y = .tup ds → (∀ d ∈ ds, Lw.noS d = true) ∧ ds.length ≤ 4000
theorem val_of {y : Yv.D} (h : y.pure = true) (g : noS y = true) (n : isTp y = false) : Val y := ⟨h, g, fun ds e => by subst e; cases n⟩
theorem val_tup {ds : List Yv.D} (h : D.pureL ds = true) (g : ∀ d ∈ ds, noS d = true) (l : ds.length ≤ 4000) : Val (.tup ds) := ⟨h, rfl, fun es e => by cases e; exact ⟨g, l⟩⟩
theorem bent_int (k : Nat) {c : Nat} {d : Yv.D} (h : Pot c d) (hc : c ≤ 900000000) {x : Nat} (hx : x < 1000000) :
    ∃ (y : Yv.D) (d' : Yv.D), fm__law_bent (k + 3) [d, .int (x : Int)] = .ok y [d', .int (x : Int)] ∧ y.pure = true ∧ noS y = true ∧ Pot (c + 1) d' := by
  have np := h.np
  have e1 : pStr [.int (x : Int)] = some (.str (toString (x : Int) : Str)) := by
    have : bits (x : Int) < 1920 := by have := bits_lt (a := x) (k := 30) (by omega) (by omega); omega
    simp only [pStr, this, decide_true, if_true]
  have e2 := pEq_I (x : Int) 1
  have ei := t__law_is_int (k + 1) (.int (x : Int)) rfl
  generalize decide ((x : Int) = 1) = b at e2
  generalize (toString (x : Int) : Str) = s at e1
  obtain ⟨y, d', e3, my, P⟩ := t_of k h (by omega) (o := true) (ds := [.int ((x : Int) + 1), .int ((x : Int) - 1), .non, .str s, .bl b]) rfl (by simp) (by simp)
  have hy : y.pure = true ∧ noS y = true := by
    simp only [List.mem_cons, List.not_mem_nil, or_false] at my
    rcases my with rfl | rfl | rfl | rfl | rfl <;> exact ⟨rfl, rfl⟩
  have hi : pIsi [.int (x : Int), .ty "tuple"] = some (.bl false) := rfl
  have a1 : pAdd (.int (x : Int)) (.int 1) = some (.int ((x : Int) + 1)) := rfl
  have a2 : pSub (.int (x : Int)) (.int 1) = some (.int ((x : Int) - 1)) := rfl
  refine ⟨y, d', ?_, hy.1, hy.2, P⟩
  rw [f__law_bent]
  exact run_rt (δ := [some d', some (.int (x : Int)), none]) (by simp [callM, somes, pureOut, finP, CR.nox, mSs, mSeq, mPass, mRetM, mRetN, mMove, mDo, mAsg, mIfS, mFor, mPar, allDt, mAndV, mOrV, mNotV, mBl, mTru, mAnd, mOr, mNot, mIf, mOp1, mOp2, mOpL, mL, mNil, mCons, mVar, mC, mCh, mVal, valA, mFz, mDt, mTup, mLst, mDct0, mCall, mPerm, permA, lentSlots_pure, back_pure, lentSlots_nil, lentSlots_dt, lentSlots_nm, lentAt_nil, lentAt_dt, lentAt_nm, mSl, mPart, mPart0, mItV, mItR1, mItR2, mItE, mMe, mMeEnd, mSto, resA, resAs, ofO, tgt, tgtL, D.frz, D.pure, D.pureL, D.frzL, mFail, mFailS, truD, List.replicate_succ, fLt, fLe, fGt, fGe, d__law_bent]) (ss_nx (δ1 := [some d, some (.int (x : Int)), none]) (by simp [callM, somes, pureOut, finP, CR.nox, mSs, mSeq, mPass, mRetM, mRetN, mMove, mDo, mAsg, mIfS, mFor, mPar, allDt, mAndV, mOrV, mNotV, mBl, mTru, mAnd, mOr, mNot, mIf, mOp1, mOp2, mOpL, mL, mNil, mCons, mVar, mC, mCh, mVal, valA, mFz, mDt, mTup, mLst, mDct0, mCall, mPerm, permA, lentSlots_pure, back_pure, lentSlots_nil, lentSlots_dt, lentSlots_nm, lentAt_nil, lentAt_dt, lentAt_nm, mSl, mPart, mPart0, mItV, mItR1, mItR2, mItE, mMe, mMeEnd, mSto, resA, resAs, ofO, tgt, tgtL, D.frz, D.pure, D.pureL, D.frzL, mFail, mFailS, truD, List.replicate_succ, fLt, fLe, fGt, fGe, d__law_bent, hi]) (ss_rt (by simp [callM, somes, pureOut, finP, CR.nox, mSs, mSeq, mPass, mRetM, mRetN, mMove, mDo, mAsg, mIfS, mFor, mPar, allDt, mAndV, mOrV, mNotV, mBl, mTru, mAnd, mOr, mNot, mIf, mOp1, mOp2, mOpL, mL, mNil, mCons, mVar, mC, mCh, mVal, valA, mFz, mDt, mTup, mLst, mDct0, mCall, mPerm, permA, lentSlots_pure, back_pure, lentSlots_nil, lentSlots_dt, lentSlots_nm, lentAt_nil, lentAt_dt, lentAt_nm, mSl, mPart, mPart0, mItV, mItR1, mItR2, mItE, mMe, mMeEnd, mSto, resA, resAs, ofO, tgt, tgtL, D.frz, D.pure, D.pureL, D.frzL, mFail, mFailS, truD, List.replicate_succ, fLt, fLe, fGt, fGe, ei, isI, a1, a2, e1, e2, e3, np, back, Yv.sizeOk]))) (by simp [callM, somes, pureOut, finP, CR.nox, mSs, mSeq, mPass, mRetM, mRetN, mMove, mDo, mAsg, mIfS, mFor, mPar, allDt, mAndV, mOrV, mNotV, mBl, mTru, mAnd, mOr, mNot, mIf, mOp1, mOp2, mOpL, mL, mNil, mCons, mVar, mC, mCh, mVal, valA, mFz, mDt, mTup, mLst, mDct0, mCall, mPerm, permA, lentSlots_pure, back_pure, lentSlots_nil, lentSlots_dt, lentSlots_nm, lentAt_nil, lentAt_dt, lentAt_nm, mSl, mPart, mPart0, mItV, mItR1, mItR2, mItE, mMe, mMeEnd, mSto, resA, resAs, ofO, tgt, tgtL, D.frz, D.pure, D.pureL, D.frzL, mFail, mFailS, truD, List.replicate_succ, fLt, fLe, fGt, fGe, d__law_bent])
end Lw

set_option Elab.async false
set_option linter.all false
set_option maxRecDepth 100000
set_option maxHeartbeats 4000000
namespace Lw
open PySem L2 Yv Mt
theorem noS_take {l : List Nat} (i : Nat) : ∀ d ∈ (nI l).take i, noS d = true := fun d m => noS_nI l d (List.mem_of_mem_take m)
theorem noS_drop {l : List Nat} (i : Nat) : ∀ d ∈ (nI l).drop i, noS d = true := fun d m => noS_nI l d (List.mem_of_mem_drop m)
theorem addT {a b : List Yv.D} (ha : D.pureL a = true) (hb : D.pureL b = true) (h : a.length + b.length ≤ 1000000) : pAdd (.tup a) (.tup b) = some (.tup (a ++ b)) := by
  have e : Yv.sizeOk (a.length + b.length) = true := by simp only [Yv.sizeOk, decide_eq_true_eq]; exact h
  simp only [pAdd, ha, hb, e, Bool.and_self, if_true]
theorem slT {a : List Yv.D} (ha : D.pureL a = true) (lo hi : Option Int) : pSl (.tup a) lo hi = some (.tup (cutD a lo hi)) := by simp only [pSl, ha, if_true]
theorem t_takeI (k : Nat) {c : Nat} {d : Yv.D} (h : Pot c d) (hc : c ≤ 1000000000) {u : Int} (hu : 0 < u) (hu2 : u ≤ 1000000) :
    ∃ (v : Nat) (d' : Yv.D), fm__law_take (k + 1) [d, .int u] = .ok (.int (v : Int)) [d', .int u] ∧ (v : Int) < u ∧ Pot (c + 1) d' := by
  obtain ⟨n, rfl⟩ := Int.eq_ofNat_of_zero_le (Int.le_of_lt hu)
  obtain ⟨v, d', e, l, P⟩ := t_take k h hc (u := n) (by omega) (by omega)
  exact ⟨v, d', e, by omega, P⟩
theorem bent_tup (k : Nat) {c : Nat} {d : Yv.D} (h : Pot c d) (hc : c ≤ 800000000) {p : List Nat} (h0 : p ≠ []) (hl : p.length ≤ 24) (hp : ∀ x ∈ p, x < 1000000) :
    ∃ (y : Yv.D) (d' : Yv.D), fm__law_bent (k + 4) [d, TN p] = .ok y [d', TN p] ∧ Val y ∧ Pot (c + 3) d' := by
  have np := h.np
  have hlp : 0 < p.length := List.length_pos_iff.mpr h0
  have ht : pIsi [TN p, .ty "tuple"] = some (.bl true) := rfl
  have en : pNe (TN p) (.tup []) = some (.bl true) := by
    have := pNe_T (a := p) (b := []) (fun x m => by have := hp x m; omega) (by simp)
    rw [decide_eq_false h0] at this; exact this
  have el := pLen_T p
  obtain ⟨v, d1, e1, lv, P1⟩ := t_take (k + 2) h (by omega) (u := p.length) hlp (by omega)
  have np1 := P1.np
  obtain ⟨w, d2, e2, lw, P2⟩ := t_takeI (k + 2) P1 (by omega) (u := 3) (by omega) (by omega)
  have np2 := P2.np
  have eq0 := pEq_I (w : Int) 0
  have s1 := slT (nI_pure p) none (some (v : Int))
  rw [cut_hi] at s1
  have s2 := slT (nI_pure p) (some ((v : Int) + 1)) none
  rw [show ((v : Int) + 1) = ((v + 1 : Nat) : Int) by omega, cut_lo] at s2
  have av : pAdd (.int (v : Int)) (.int 1) = some (.int ((v + 1 : Nat) : Int)) := rfl
  have p1 := pureL_take v (nI_pure p)
  have p2 := pureL_drop (v + 1) (nI_pure p)
  have l1 : ((nI p).take v).length ≤ 24 := by simp [nI_len]; omega
  have l2 : ((nI p).drop (v + 1)).length ≤ 24 := by simp [nI_len]; omega
  have n1 := noS_take (l := p) v
  have n2 := noS_drop (l := p) (v + 1)
  generalize hv1 : ((v + 1 : Nat) : Int) = v1 at *
  by_cases cw : (w : Int) = 0
  · simp only [cw, decide_true] at eq0
    have e2' := e2
    rw [cw] at e2'
    have s3 := slT (nI_pure p) none (some ((1 : Nat) : Int))
    rw [cut_hi] at s3
    have p3 := pureL_take 1 (nI_pure p)
    have l3 : ((nI p).take 1).length ≤ 24 := by simp [nI_len]; omega
    have n3 := noS_take (l := p) 1
    have a1 := addT p1 p2 (by omega)
    have a2 := addT (nI_pure p) p3 (by rw [nI_len]; omega)
    have rv : pRev (TN p) = some (.tup (nI p).reverse) := by simp only [pRev, nI_pure, if_true]
    have pr := pureL_reverse (nI_pure p)
    have nr : ∀ d ∈ (nI p).reverse, noS d = true := fun d m => noS_nI p d (List.mem_reverse.mp m)
    have lr : (nI p).reverse.length ≤ 24 := by simp [nI_len]; omega
    have ls : pLstOf [TN p] = some (LS true p) := by simp [pLstOf, itS, itL, itT, nI_pure]
    have hnp := nI_pure p
    have hnn := noS_nI p
    have hln := nI_len p
    have fz := nI_frz p
    have fz1 := frzL_of_pure p1
    generalize (nI p).take v = t1 at *
    generalize (nI p).drop (v + 1) = t2 at *
    generalize (nI p).take 1 = t3 at *
    generalize (nI p).reverse = tr at *
    have pa : D.pureL (t1 ++ t2) = true := by rw [pureL_append, p1, p2]; rfl
    have pb : D.pureL (nI p ++ t3) = true := by rw [pureL_append, hnp, p3]; rfl
    obtain ⟨y, d3, e3, my, P3⟩ := t_of (k + 1) P2 (by omega) (o := true) (ds := [LS false p, .tup (t1 ++ t2), .tup (nI p ++ t3), .tup tr])
      (by simp [D.pureL, D.pure, hnp, pa, pb, pr]) (by simp) (by simp)
    have np3 := P3.np
    have fa := frzL_of_pure pa
    have fb := frzL_of_pure pb
    have fr := frzL_of_pure pr
    refine ⟨y, d3, ?_, ?_, P3⟩
    · rw [f__law_bent]
      refine run_rt (δ := [some d3, some (TN p), some (.int (v : Int))]) (by simp [callM, somes, pureOut, finP, CR.nox, mSs, mSeq, mPass, mRetM, mRetN, mMove, mDo, mAsg, mIfS, mFor, mPar, allDt, mAndV, mOrV, mNotV, mBl, mTru, mAnd, mOr, mNot, mIf, mOp1, mOp2, mOpL, mL, mNil, mCons, mVar, mC, mCh, mVal, valA, mFz, mDt, mTup, mLst, mDct0, mCall, mPerm, permA, lentSlots_pure, back_pure, lentSlots_nil, lentSlots_dt, lentSlots_nm, lentAt_nil, lentAt_dt, lentAt_nm, mSl, mPart, mPart0, mItV, mItR1, mItR2, mItE, mMe, mMeEnd, mSto, resA, resAs, ofO, tgt, tgtL, D.frz, D.pure, D.pureL, D.frzL, mFail, mFailS, truD, List.replicate_succ, fLt, fLe, fGt, fGe, d__law_bent, hnp]) (ss_rt ?_) (by simp [callM, somes, pureOut, finP, CR.nox, mSs, mSeq, mPass, mRetM, mRetN, mMove, mDo, mAsg, mIfS, mFor, mPar, allDt, mAndV, mOrV, mNotV, mBl, mTru, mAnd, mOr, mNot, mIf, mOp1, mOp2, mOpL, mL, mNil, mCons, mVar, mC, mCh, mVal, valA, mFz, mDt, mTup, mLst, mDct0, mCall, mPerm, permA, lentSlots_pure, back_pure, lentSlots_nil, lentSlots_dt, lentSlots_nm, lentAt_nil, lentAt_dt, lentAt_nm, mSl, mPart, mPart0, mItV, mItR1, mItR2, mItE, mMe, mMeEnd, mSto, resA, resAs, ofO, tgt, tgtL, D.frz, D.pure, D.pureL, D.frzL, mFail, mFailS, truD, List.replicate_succ, fLt, fLe, fGt, fGe, d__law_bent])
      have cond : mAnd (mTru (mOpL pIsi (mL [(mVar 1), (mC (.ty "tuple"))]))) (mBl (mOp2 pNe (mVar 1) (mTup (mL [])))) [some d, some (TN p), none] = .ok true [some d, some (TN p), none] := by simp [callM, somes, pureOut, finP, CR.nox, mSs, mSeq, mPass, mRetM, mRetN, mMove, mDo, mAsg, mIfS, mFor, mPar, allDt, mAndV, mOrV, mNotV, mBl, mTru, mAnd, mOr, mNot, mIf, mOp1, mOp2, mOpL, mL, mNil, mCons, mVar, mC, mCh, mVal, valA, mFz, mDt, mTup, mLst, mDct0, mCall, mPerm, permA, lentSlots_pure, back_pure, lentSlots_nil, lentSlots_dt, lentSlots_nm, lentAt_nil, lentAt_dt, lentAt_nm, mSl, mPart, mPart0, mItV, mItR1, mItR2, mItE, mMe, mMeEnd, mSto, resA, resAs, ofO, tgt, tgtL, D.frz, D.pure, D.pureL, D.frzL, mFail, mFailS, truD, List.replicate_succ, fLt, fLe, fGt, fGe, ht, en, Yv.sizeOk]
      show mIfS _ _ _ [some d, some (TN p), none] = _
      unfold mIfS
      rw [cond]
      simp only [R.toS_ok, if_true]
      refine ss_nx (δ1 := [some d1, some (TN p), some (.int (v : Int))]) (by simp [callM, somes, pureOut, finP, CR.nox, mSs, mSeq, mPass, mRetM, mRetN, mMove, mDo, mAsg, mIfS, mFor, mPar, allDt, mAndV, mOrV, mNotV, mBl, mTru, mAnd, mOr, mNot, mIf, mOp1, mOp2, mOpL, mL, mNil, mCons, mVar, mC, mCh, mVal, valA, mFz, mDt, mTup, mLst, mDct0, mCall, mPerm, permA, lentSlots_pure, back_pure, lentSlots_nil, lentSlots_dt, lentSlots_nm, lentAt_nil, lentAt_dt, lentAt_nm, mSl, mPart, mPart0, mItV, mItR1, mItR2, mItE, mMe, mMeEnd, mSto, resA, resAs, ofO, tgt, tgtL, D.frz, D.pure, D.pureL, D.frzL, mFail, mFailS, truD, List.replicate_succ, fLt, fLe, fGt, fGe, el, e1, np, back]) (ss_rt ?_)
      have cond2 : mBl (mOp2 pEq (mCall (fm__law_take (k + 3)) (mL [(mVar 0), (mC (.int 3))])) (mC (.int 0))) [some d1, some (TN p), some (.int (v : Int))] = .ok true [some d2, some (TN p), some (.int (v : Int))] := by simp [callM, somes, pureOut, finP, CR.nox, mSs, mSeq, mPass, mRetM, mRetN, mMove, mDo, mAsg, mIfS, mFor, mPar, allDt, mAndV, mOrV, mNotV, mBl, mTru, mAnd, mOr, mNot, mIf, mOp1, mOp2, mOpL, mL, mNil, mCons, mVar, mC, mCh, mVal, valA, mFz, mDt, mTup, mLst, mDct0, mCall, mPerm, permA, lentSlots_pure, back_pure, lentSlots_nil, lentSlots_dt, lentSlots_nm, lentAt_nil, lentAt_dt, lentAt_nm, mSl, mPart, mPart0, mItV, mItR1, mItR2, mItE, mMe, mMeEnd, mSto, resA, resAs, ofO, tgt, tgtL, D.frz, D.pure, D.pureL, D.frzL, mFail, mFailS, truD, List.replicate_succ, fLt, fLe, fGt, fGe, e2', eq0, np1, back]
      rw [cond2]
      simp only [R.toS_ok, if_true]
      refine ss_rt ?_
      have s3' : pSl (TN p) none (some 1) = some (.tup t3) := s3
      simp [callM, somes, pureOut, finP, CR.nox, mSs, mSeq, mPass, mRetM, mRetN, mMove, mDo, mAsg, mIfS, mFor, mPar, allDt, mAndV, mOrV, mNotV, mBl, mTru, mAnd, mOr, mNot, mIf, mOp1, mOp2, mOpL, mL, mNil, mCons, mVar, mC, mCh, mVal, valA, mFz, mDt, mTup, mLst, mDct0, mCall, mPerm, permA, lentSlots_pure, back_pure, lentSlots_nil, lentSlots_dt, lentSlots_nm, lentAt_nil, lentAt_dt, lentAt_nm, mSl, mPart, mPart0, mItV, mItR1, mItR2, mItE, mMe, mMeEnd, mSto, resA, resAs, ofO, tgt, tgtL, D.frz, D.pure, D.pureL, D.frzL, mFail, mFailS, truD, List.replicate_succ, fLt, fLe, fGt, fGe, ls, s1, s2, av, a1, s3', a2, rv, e3, np2, back, Yv.sizeOk, fa, fb, fr, hnp, fz]
    · simp only [List.mem_cons, List.not_mem_nil, or_false] at my
      rcases my with rfl | rfl | rfl | rfl
      · exact val_of (by simp [D.pure, hnp]) rfl rfl
      · exact val_tup pa (fun d m => (List.mem_append.mp m).elim (n1 d) (n2 d)) (by simp; omega)
      · exact val_tup pb (fun d m => (List.mem_append.mp m).elim (hnn d) (n3 d)) (by simp [hln]; omega)
      · exact val_tup pr nr (by omega)
  · simp only [cw, decide_false] at eq0
    have ei := pIx_T lv
    have hx : ap p v < 1000000 := by rw [ap_eq lv]; exact hp _ (List.getElem_mem lv)
    obtain ⟨y, d3, e3, y1, y2, P3⟩ := bent_int k P2 (by omega) hx
    have np3 := P3.np
    have fy := frz_of_pure y1
    have py : D.pureL [y] = true := by simp [D.pureL, y1]
    have a1 := addT p1 py (by simp; omega)
    have pa : D.pureL ((nI p).take v ++ [y]) = true := by rw [pureL_append, p1, py]; rfl
    have a2 := addT pa p2 (by simp only [List.length_append, List.length_singleton]; omega)
    have hnp := nI_pure p
    generalize (nI p).take v = t1 at *
    generalize (nI p).drop (v + 1) = t2 at *
    have pb : D.pureL (t1 ++ [y] ++ t2) = true := by rw [pureL_append, pa, p2]; rfl
    refine ⟨.tup (t1 ++ [y] ++ t2), d3, ?_, ?_, P3⟩
    · rw [f__law_bent]
      refine run_rt (δ := [some d3, some (TN p), some (.int (v : Int))]) (by simp [callM, somes, pureOut, finP, CR.nox, mSs, mSeq, mPass, mRetM, mRetN, mMove, mDo, mAsg, mIfS, mFor, mPar, allDt, mAndV, mOrV, mNotV, mBl, mTru, mAnd, mOr, mNot, mIf, mOp1, mOp2, mOpL, mL, mNil, mCons, mVar, mC, mCh, mVal, valA, mFz, mDt, mTup, mLst, mDct0, mCall, mPerm, permA, lentSlots_pure, back_pure, lentSlots_nil, lentSlots_dt, lentSlots_nm, lentAt_nil, lentAt_dt, lentAt_nm, mSl, mPart, mPart0, mItV, mItR1, mItR2, mItE, mMe, mMeEnd, mSto, resA, resAs, ofO, tgt, tgtL, D.frz, D.pure, D.pureL, D.frzL, mFail, mFailS, truD, List.replicate_succ, fLt, fLe, fGt, fGe, d__law_bent, hnp]) (ss_rt ?_) (by simp [callM, somes, pureOut, finP, CR.nox, mSs, mSeq, mPass, mRetM, mRetN, mMove, mDo, mAsg, mIfS, mFor, mPar, allDt, mAndV, mOrV, mNotV, mBl, mTru, mAnd, mOr, mNot, mIf, mOp1, mOp2, mOpL, mL, mNil, mCons, mVar, mC, mCh, mVal, valA, mFz, mDt, mTup, mLst, mDct0, mCall, mPerm, permA, lentSlots_pure, back_pure, lentSlots_nil, lentSlots_dt, lentSlots_nm, lentAt_nil, lentAt_dt, lentAt_nm, mSl, mPart, mPart0, mItV, mItR1, mItR2, mItE, mMe, mMeEnd, mSto, resA, resAs, ofO, tgt, tgtL, D.frz, D.pure, D.pureL, D.frzL, mFail, mFailS, truD, List.replicate_succ, fLt, fLe, fGt, fGe, d__law_bent])
      have cond : mAnd (mTru (mOpL pIsi (mL [(mVar 1), (mC (.ty "tuple"))]))) (mBl (mOp2 pNe (mVar 1) (mTup (mL [])))) [some d, some (TN p), none] = .ok true [some d, some (TN p), none] := by simp [callM, somes, pureOut, finP, CR.nox, mSs, mSeq, mPass, mRetM, mRetN, mMove, mDo, mAsg, mIfS, mFor, mPar, allDt, mAndV, mOrV, mNotV, mBl, mTru, mAnd, mOr, mNot, mIf, mOp1, mOp2, mOpL, mL, mNil, mCons, mVar, mC, mCh, mVal, valA, mFz, mDt, mTup, mLst, mDct0, mCall, mPerm, permA, lentSlots_pure, back_pure, lentSlots_nil, lentSlots_dt, lentSlots_nm, lentAt_nil, lentAt_dt, lentAt_nm, mSl, mPart, mPart0, mItV, mItR1, mItR2, mItE, mMe, mMeEnd, mSto, resA, resAs, ofO, tgt, tgtL, D.frz, D.pure, D.pureL, D.frzL, mFail, mFailS, truD, List.replicate_succ, fLt, fLe, fGt, fGe, ht, en, Yv.sizeOk]
      show mIfS _ _ _ [some d, some (TN p), none] = _
      unfold mIfS
      rw [cond]
      simp only [R.toS_ok, if_true]
      refine ss_nx (δ1 := [some d1, some (TN p), some (.int (v : Int))]) (by simp [callM, somes, pureOut, finP, CR.nox, mSs, mSeq, mPass, mRetM, mRetN, mMove, mDo, mAsg, mIfS, mFor, mPar, allDt, mAndV, mOrV, mNotV, mBl, mTru, mAnd, mOr, mNot, mIf, mOp1, mOp2, mOpL, mL, mNil, mCons, mVar, mC, mCh, mVal, valA, mFz, mDt, mTup, mLst, mDct0, mCall, mPerm, permA, lentSlots_pure, back_pure, lentSlots_nil, lentSlots_dt, lentSlots_nm, lentAt_nil, lentAt_dt, lentAt_nm, mSl, mPart, mPart0, mItV, mItR1, mItR2, mItE, mMe, mMeEnd, mSto, resA, resAs, ofO, tgt, tgtL, D.frz, D.pure, D.pureL, D.frzL, mFail, mFailS, truD, List.replicate_succ, fLt, fLe, fGt, fGe, el, e1, np, back]) (ss_nx (δ1 := [some d2, some (TN p), some (.int (v : Int))]) ?_ (ss_rt ?_))
      · have cond2 : mBl (mOp2 pEq (mCall (fm__law_take (k + 3)) (mL [(mVar 0), (mC (.int 3))])) (mC (.int 0))) [some d1, some (TN p), some (.int (v : Int))] = .ok false [some d2, some (TN p), some (.int (v : Int))] := by simp [callM, somes, pureOut, finP, CR.nox, mSs, mSeq, mPass, mRetM, mRetN, mMove, mDo, mAsg, mIfS, mFor, mPar, allDt, mAndV, mOrV, mNotV, mBl, mTru, mAnd, mOr, mNot, mIf, mOp1, mOp2, mOpL, mL, mNil, mCons, mVar, mC, mCh, mVal, valA, mFz, mDt, mTup, mLst, mDct0, mCall, mPerm, permA, lentSlots_pure, back_pure, lentSlots_nil, lentSlots_dt, lentSlots_nm, lentAt_nil, lentAt_dt, lentAt_nm, mSl, mPart, mPart0, mItV, mItR1, mItR2, mItE, mMe, mMeEnd, mSto, resA, resAs, ofO, tgt, tgtL, D.frz, D.pure, D.pureL, D.frzL, mFail, mFailS, truD, List.replicate_succ, fLt, fLe, fGt, fGe, e2, eq0, np1, back]
        rw [cond2]
        simp only [R.toS_ok, Bool.false_eq_true, if_false]; rfl
      · simp [callM, somes, pureOut, finP, CR.nox, mSs, mSeq, mPass, mRetM, mRetN, mMove, mDo, mAsg, mIfS, mFor, mPar, allDt, mAndV, mOrV, mNotV, mBl, mTru, mAnd, mOr, mNot, mIf, mOp1, mOp2, mOpL, mL, mNil, mCons, mVar, mC, mCh, mVal, valA, mFz, mDt, mTup, mLst, mDct0, mCall, mPerm, permA, lentSlots_pure, back_pure, lentSlots_nil, lentSlots_dt, lentSlots_nm, lentAt_nil, lentAt_dt, lentAt_nm, mSl, mPart, mPart0, mItV, mItR1, mItR2, mItE, mMe, mMeEnd, mSto, resA, resAs, ofO, tgt, tgtL, D.frz, D.pure, D.pureL, D.frzL, mFail, mFailS, truD, List.replicate_succ, fLt, fLe, fGt, fGe, s1, s2, av, a1, a2, ei, e3, np2, back, Yv.sizeOk, fy, y1]
    · refine val_tup pb (fun x m => ?_) (by simp; omega)
      rcases List.mem_append.mp m with m | m
      · rcases List.mem_append.mp m with m | m
        · exact n1 x m
        · rw [List.mem_singleton.mp m]; exact y2
      · exact n2 x m
end Lw

set_option Elab.async false
set_option linter.all false
set_option maxRecDepth 100000
set_option maxHeartbeats 4000000
namespace Lw
open PySem L2 Yv Mt
def r0 (k : Nat) : Ms := (mAsg [0] (.nm 1) (mOpL pInt (mL [(mCall (fm__law_of k) (mL [(mVar 0), (mLst (mL [mFz (mOp2 pAdd (mC (.int 1)) (mCall (fm__law_take k) (mL [(mVar 0), (mC (.int 12))]))), mFz (mOp2 pAdd (mC (.int 1)) (mCall (fm__law_take k) (mL [(mVar 0), (mC (.int 6))]))), mFz (mC (.int 24))]))]))])))
def r1 (k : Nat) : Ms := (mAsg [0] (.tp [(.nm 2), (.nm 3), (.nm 4)]) (mTup (mL [mFz (mCall (fm__law_turn k) (mL [(mVar 0), (mVar 1)])), mFz (mCall (fm__law_turn k) (mL [(mVar 0), (mVar 1)])), mFz (mOpL pTupOf (mL [(mLc (mItR1 (mL [(mVar 1)])) (.nm 14) mYes (mOpL pInt (mL [(mVar 14)])) [14])]))])))
def r2 (k : Nat) : Ms := (mIfS (mOr (mBl (mOp2 pNe (mOpL pRepr (mL [(mCall (fm_still k) (mPerm 1 [0] (mL [(mVar 1)])))])) (mOpL pRepr (mL [(mVar 4)])))) (mOr (mBl (mOp2 pNe (mOpL pRepr (mL [(mCall (fm_behind k) (mPerm 2 [0, 1] (mL [(mVar 2), (mVar 3)])))])) (mOpL pRepr (mL [(mCall (fm__law_then k) (mL [(mVar 2), (mVar 3)]))])))) (mBl (mOp2 pNe (mOpL pRepr (mL [(mCall (fm_back k) (mPerm 1 [0] (mL [(mVar 2)])))])) (mOpL pRepr (mL [(mCall (fm__law_back k) (mL [(mVar 2)]))])))))) (mSs [(mRetM [0] (mC (.bl false)))]) (mSs []))
def r3 (k : Nat) : Ms := (mAsg [0] (.nm 5) (mCall (fm__law_rounds k) (mL [(mVar 2)])))
def r4 (k : Nat) : Ms := (mIfS (mOr (mBl (mOp2 pNe (mOpL pRepr (mL [(mCall (fm_rounds_of k) (mPerm 1 [0] (mL [(mVar 2)])))])) (mOpL pRepr (mL [(mOpL pTupOf (mL [(mVar 5)]))])))) (mBl (mOp2 pNe (mOpL pRepr (mL [(mCall (fm_turn_of_rounds k) (mPerm 2 [0, 1] (mL [(mVar 1), (mOpL pTupOf (mL [(mVar 5)]))])))])) (mOpL pRepr (mL [(mVar 2)]))))) (mSs [(mRetM [0] (mC (.bl false)))]) (mSs []))
def r5 (k : Nat) : Ms := (mAsg [0] (.nm 6) (mC (.int 1)))
def r6 (k : Nat) : Ms := (mFor [0] (mItV (mVar 5)) (.nm 7) (mSs [(mAsg [0] (.nm 6) (mOp2 pDiv (mOp2 pMul (mVar 6) (mOpL pLen (mL [(mVar 7)]))) (mCall (fm__law_common k) (mL [(mVar 6), (mOpL pLen (mL [(mVar 7)]))]))))]))
def r7 (k : Nat) : Ms := (mIfS (mOr (mBl (mOp2 pNe (mOpL pRepr (mL [(mCall (fm_order_of k) (mPerm 1 [0] (mL [(mVar 2)])))])) (mOpL pRepr (mL [(mOpL pInt (mL [(mVar 6)]))])))) (mBl (mOp2 pNe (mCall (fm_times k) (mL [(mVar 2), (mVar 6)])) (mVar 4)))) (mSs [(mRetM [0] (mC (.bl false)))]) (mSs []))
def r8 (k : Nat) : Ms := (mAsg [0] (.nm 8) (mOpL (lI fSum) (mL [(mLc (mItR1 (mL [(mVar 1)])) (.nm 15) mYes (mOpL pLen (mL [(mLc (mItV (mSl (mVar 2) (mPart (mOp2 pAdd (mVar 15) (mC (.int 1)))) mPart0)) (.nm 16) (mBl (mOp2 (pOrd fLt gLt) (mVar 16) (mOp2 pIx (mVar 2) (mVar 15)))) (mVar 16) [16])])) [15])])))
def r9 (k : Nat) : Ms := (mIfS (mOr (mBl (mOp2 pNe (mOpL pRepr (mL [(mCall (fm_is_even k) (mPerm 1 [0] (mL [(mVar 2)])))])) (mOpL pRepr (mL [(mOp2 pEq (mOp2 pMod (mVar 8) (mC (.int 2))) (mC (.int 0)))])))) (mBl (mOp2 pNe (mCall (fm_is_even k) (mL [(mCall (fm_behind k) (mL [(mVar 2), (mVar 3)]))])) (mOp2 pEq (mCall (fm_is_even k) (mL [(mVar 2)])) (mCall (fm_is_even k) (mL [(mVar 3)])))))) (mSs [(mRetM [0] (mC (.bl false)))]) (mSs []))
def r10 (k : Nat) : Ms := (mAsg [0] (.nm 9) (mOpL pInt (mL [(mCall (fm__law_of k) (mL [(mVar 0), (mLst (mL [mFz (mCall (fm__law_take k) (mL [(mVar 0), (mC (.int 30))])), mFz (mOp2 pSub (mC (.int 0)) (mCall (fm__law_take k) (mL [(mVar 0), (mC (.int 30))]))), mFz (mC (.int 1000000)), mFz (mOp1 pNeg (mC (.int 1000000)))]))]))])))
def r11 (k : Nat) : Ms := (mAsg [0] (.nm 10) (mVar 4))
def r12 (k : Nat) : Ms := (mFor [0] (mItR1 (mL [(mOp2 pMod (mVar 9) (mVar 6))])) (.nm 11) (mSs [(mAsg [0] (.nm 10) (mCall (fm__law_then k) (mL [(mVar 10), (mVar 2)])))]))
def r13 (k : Nat) : Ms := (mIfS (mBl (mOp2 pNe (mOpL pRepr (mL [(mCall (fm_times k) (mPerm 2 [1, 0] (mL [(mVar 9), (mVar 2)])))])) (mOpL pRepr (mL [(mVar 10)])))) (mSs [(mRetM [0] (mC (.bl false)))]) (mSs []))
def r14 (k : Nat) : Ms := (mIfS (mBl (mOp2 pNe (mOpL pRepr (mL [(mCall (fm_turned_by k) (mPerm 2 [0, 1] (mL [(mVar 2), (mVar 3)])))])) (mOpL pRepr (mL [(mCall (fm__law_then k) (mL [(mCall (fm__law_then k) (mL [(mCall (fm__law_back k) (mL [(mVar 3)])), (mVar 2)])), (mVar 3)]))])))) (mSs [(mRetM [0] (mC (.bl false)))]) (mSs []))
def r15 (k : Nat) : Ms := (mAsg [0] (.nm 7) (mOpL pTupOf (mL [(mLc (mItR1 (mL [(mVar 1)])) (.nm 14) mYes (mCall (fm__law_of k) (mL [(mVar 0), (mLst (mL [mFz (mC (.str "p")), mFz (mC (.non)), mFz (mC (.int 3)), mFz (mTup (mL [])), mFz (mC (.str "q"))]))])) [14])])))
def r16 (k : Nat) : Ms := (mAsg [0] (.nm 10) (mOpL pTupOf (mL [(mLc (mItR1 (mL [(mVar 1)])) (.nm 14) mYes (mOp2 pIx (mVar 7) (mOp2 pIx (mCall (fm__law_back k) (mL [(mVar 2)])) (mVar 14))) [14])])))
def r17 (k : Nat) : Ms := (mIfS (mBl (mOp2 pNe (mOpL pRepr (mL [(mCall (fm_moved k) (mPerm 2 [1, 0] (mL [(mVar 7), (mVar 2)])))])) (mOpL pRepr (mL [(mVar 10)])))) (mSs [(mRetM [0] (mC (.bl false)))]) (mSs []))
def r18 (k : Nat) : Ms := (mAsg [0] (.nm 12) (mOp2 pAdd (mLst (mL [mFz (mVar 2), mFz (mOpL pLstOf (mL [(mVar 2)])), mFz (mSl (mVar 2) mPart0 (mPart (mOp1 pNeg (mC (.int 1))))), mFz (mOp2 pAdd (mVar 2) (mTup (mL [mFz (mVar 1)]))), mFz (mOp1 pRev (mVar 2)), mFz (mOp2 pMul (mTup (mL [mFz (mC (.int 0))])) (mVar 1)), mFz (mC (.non)), mFz (mC (.int 7)), mFz (mOpL pTupOf (mL [(mLc (mItV (mVar 2)) (.nm 14) mYes (mOp2 pEq (mVar 14) (mC (.int 1))) [14])]))])) (mLc (mItR1 (mL [(mC (.int 5))])) (.nm 11) mYes (mCall (fm__law_bent k) (mL [(mVar 0), (mVar 2)])) [11])))
def r19 (k : Nat) : Ms := (mFor [0] (mItV (mVar 12)) (.nm 13) (mSs [(mAsg [0] (.nm 10) (mAndV (mOpL pIsi (mL [(mVar 13), (mC (.ty "tuple"))])) (mAndV (mOpL (lB fAll) (mL [(mLc (mItV (mVar 13)) (.nm 14) mYes (mCall (fm__law_is_int k) (mL [(mVar 14)])) [14])])) (mOp2 pEq (mOpL pSort (mL [(mVar 13)])) (mOpL pLstOf (mL [(mVar 4)])))))),
      (mIfS (mBl (mOp2 pNe (mOpL pRepr (mL [(mCall (fm_is_turn k) (mPerm 2 [0, 1] (mL [(mVar 1), (mVar 13)])))])) (mOpL pRepr (mL [(mVar 10)])))) (mSs [(mRetM [0] (mC (.bl false)))]) (mSs []))]))
def r20 (k : Nat) : Ms := (mRetM [0] (mC (.bl true)))
theorem req (k : Nat) : b__law_right k = mSs [r0 k, r1 k, r2 k, r3 k, r4 k, r5 k, r6 k, r7 k, r8 k, r9 k, r10 k, r11 k, r12 k, r13 k, r14 k, r15 k, r16 k, r17 k, r18 k, r19 k, r20 k] := rfl

theorem rs0 (j : Nat) {c : Nat} {d : Yv.D} (h : Pot c d) (hc : c ≤ 700000000) : ∃ (n : Nat) (d' : Yv.D), r0 (j + 7) [some (d), none, none, none, none, none, none, none, none, none, none, none, none, none, none, none, none] = .nx [some (d'), some (.int (n : Int)), none, none, none, none, none, none, none, none, none, none, none, none, none, none, none] ∧ 1 ≤ n ∧ n ≤ 24 ∧ Pot (c + 3) d' := by
  have np := h.np
  obtain ⟨v, d1, e1, lv, P1⟩ := t_takeI (j + 6) h (by omega) (u := 12) (by omega) (by omega)
  have np1 := P1.np
  obtain ⟨w, d2, e2, lw, P2⟩ := t_takeI (j + 6) P1 (by omega) (u := 6) (by omega) (by omega)
  have np2 := P2.np
  have a1 : pAdd (.int 1) (.int (v : Int)) = some (.int ((v + 1 : Nat) : Int)) := by show some (Yv.D.int (1 + (v : Int))) = _; congr 2; omega
  have a2 : pAdd (.int 1) (.int (w : Int)) = some (.int ((w + 1 : Nat) : Int)) := by show some (Yv.D.int (1 + (w : Int))) = _; congr 2; omega
  generalize hv : v + 1 = v1 at *
  generalize hw : w + 1 = w1 at *
  obtain ⟨y, d3, e3, my, P3⟩ := t_of (j + 5) P2 (by omega) (o := true) (ds := [.int (v1 : Int), .int (w1 : Int), .int 24]) rfl (by simp) (by simp)
  obtain ⟨n, rfl, n1, n2⟩ : ∃ n : Nat, y = .int (n : Int) ∧ 1 ≤ n ∧ n ≤ 24 := by
    simp only [List.mem_cons, List.not_mem_nil, or_false] at my
    rcases my with rfl | rfl | rfl
    · exact ⟨v1, rfl, by omega, by omega⟩
    · exact ⟨w1, rfl, by omega, by omega⟩
    · exact ⟨24, rfl, by omega, by omega⟩
  refine ⟨n, d3, ?_, n1, n2, P3⟩
  unfold r0
  simp [callM, somes, pureOut, finP, CR.nox, mSs, mSeq, mPass, mRetM, mRetN, mMove, mDo, mAsg, mIfS, mFor, mPar, allDt, mAndV, mOrV, mNotV, mBl, mTru, mAnd, mOr, mNot, mIf, mOp1, mOp2, mOpL, mL, mNil, mCons, mVar, mC, mCh, mVal, valA, mFz, mDt, mTup, mLst, mDct0, mCall, mPerm, permA, lentSlots_pure, back_pure, lentSlots_nil, lentSlots_dt, lentSlots_nm, lentAt_nil, lentAt_dt, lentAt_nm, mSl, mPart, mPart0, mItV, mItR1, mItR2, mItE, mMe, mMeEnd, mSto, resA, resAs, ofO, tgt, tgtL, D.frz, D.pure, D.pureL, D.frzL, mFail, mFailS, truD, List.replicate_succ, fLt, fLe, fGt, fGe, e1, e2, e3, a1, a2, np, np1, np2, back, Yv.sizeOk, pInt]
theorem asg_eq {P : List Nat} {t : Tg} {m : Mn A} {δ δ1 δ2 : Env'} {x : Yv.D} (h1 : mVal m δ = .ok x δ1) (h2 : tgt P t x δ1 = some δ2) : mAsg P t m δ = .nx δ2 := by
  unfold mAsg; rw [h1]; simp only [R.toS_ok, h2]
theorem rs1 (j : Nat) {c : Nat} {d : Yv.D} (h : Pot c d) (hc : c ≤ 700000000) {n : Nat} (n1 : 1 ≤ n) (n2 : n ≤ 24) : ∃ (p q : List Nat) (d' : Yv.D), r1 (j + 7) [some (d), some (.int (n : Int)), none, none, none, none, none, none, none, none, none, none, none, none, none, none, none] = .nx [some (d'), some (.int (n : Int)), some (TN p), some (TN q), some (TN (idt n)), none, none, none, none, none, none, none, none, none, none, none, none] ∧ IsT n p ∧ IsT n q ∧ Pot (c + n + n) d' := by
  have np := h.np
  obtain ⟨p, d1, e1, hp, P1⟩ := t__law_turn (j + 4) h (n := n) (by omega) (by omega)
  have np1 := P1.np
  obtain ⟨q, d2, e2, hq, P2⟩ := t__law_turn (j + 4) P1 (n := n) (by omega) (by omega)
  have np2 := P2.np
  have er := rg1_nat n (by omega)
  have lc := lc_map (mi := mItR1 (mL [(mVar 1)])) (t := .nm 14) (tt := mYes) (te := mOpL pInt (mL [(mVar 14)])) (vs := [14]) (δ := [some (d2), some (.int (n : Int)), none, none, none, none, none, none, none, none, none, none, none, none, none, none, none]) (δ1 := [some (d2), some (.int (n : Int)), none, none, none, none, none, none, none, none, none, none, none, none, none, none, none]) (ds := nI (List.range n))
    id (by simp [callM, somes, pureOut, finP, CR.nox, mSs, mSeq, mPass, mRetM, mRetN, mMove, mDo, mAsg, mIfS, mFor, mPar, allDt, mAndV, mOrV, mNotV, mBl, mTru, mAnd, mOr, mNot, mIf, mOp1, mOp2, mOpL, mL, mNil, mCons, mVar, mC, mCh, mVal, valA, mFz, mDt, mTup, mLst, mDct0, mCall, mPerm, permA, lentSlots_pure, back_pure, lentSlots_nil, lentSlots_dt, lentSlots_nm, lentAt_nil, lentAt_dt, lentAt_nm, mSl, mPart, mPart0, mItV, mItR1, mItR2, mItE, mMe, mMeEnd, mSto, resA, resAs, ofO, tgt, tgtL, D.frz, D.pure, D.pureL, D.frzL, mFail, mFailS, truD, List.replicate_succ, fLt, fLe, fGt, fGe, er, intsD_eq]) rfl (by rw [nI_len]; simp; omega) (fun y m => by
      obtain ⟨x, mx, rfl⟩ := nI_mem m
      simp [callM, somes, pureOut, finP, CR.nox, mSs, mSeq, mPass, mRetM, mRetN, mMove, mDo, mAsg, mIfS, mFor, mPar, allDt, mAndV, mOrV, mNotV, mBl, mTru, mAnd, mOr, mNot, mIf, mOp1, mOp2, mOpL, mL, mNil, mCons, mVar, mC, mCh, mVal, valA, mFz, mDt, mTup, mLst, mDct0, mCall, mPerm, permA, lentSlots_pure, back_pure, lentSlots_nil, lentSlots_dt, lentSlots_nm, lentAt_nil, lentAt_dt, lentAt_nm, mSl, mPart, mPart0, mItV, mItR1, mItR2, mItE, mMe, mMeEnd, mSto, resA, resAs, ofO, tgt, tgtL, D.frz, D.pure, D.pureL, D.frzL, mFail, mFailS, truD, List.replicate_succ, fLt, fLe, fGt, fGe, lcStep, others, wipeD, backD, mYes, List.range_succ, nI_frz, pInt])
  rw [List.map_id] at lc
  simp only [mL] at lc
  refine ⟨p, q, d2, ?_, hp, hq, P2⟩
  refine asg_eq (x := .tup [TN p, TN q, TN (idt n)]) (δ1 := [some (d2), some (.int (n : Int)), none, none, none, none, none, none, none, none, none, none, none, none, none, none, none]) ?_ (by simp [callM, somes, pureOut, finP, CR.nox, mSs, mSeq, mPass, mRetM, mRetN, mMove, mDo, mAsg, mIfS, mFor, mPar, allDt, mAndV, mOrV, mNotV, mBl, mTru, mAnd, mOr, mNot, mIf, mOp1, mOp2, mOpL, mL, mNil, mCons, mVar, mC, mCh, mVal, valA, mFz, mDt, mTup, mLst, mDct0, mCall, mPerm, permA, lentSlots_pure, back_pure, lentSlots_nil, lentSlots_dt, lentSlots_nm, lentAt_nil, lentAt_dt, lentAt_nm, mSl, mPart, mPart0, mItV, mItR1, mItR2, mItE, mMe, mMeEnd, mSto, resA, resAs, ofO, tgt, tgtL, D.frz, D.pure, D.pureL, D.frzL, mFail, mFailS, truD, List.replicate_succ, fLt, fLe, fGt, fGe])
  have et : pTupOf [LS true (List.range n)] = some (TN (idt n)) := tupOf_L true (idt n)
  have fS : (TN (idt n)).frz = TN (idt n) := frz_of_pure (TP_pure _)
  have pS : (TN (idt n)).pure = true := TP_pure _
  generalize TN (idt n) = SS at *
  simp [callM, somes, pureOut, finP, CR.nox, mSs, mSeq, mPass, mRetM, mRetN, mMove, mDo, mAsg, mIfS, mFor, mPar, allDt, mAndV, mOrV, mNotV, mBl, mTru, mAnd, mOr, mNot, mIf, mOp1, mOp2, mOpL, mL, mNil, mCons, mVar, mC, mCh, mVal, valA, mFz, mDt, mTup, mLst, mDct0, mCall, mPerm, permA, lentSlots_pure, back_pure, lentSlots_nil, lentSlots_dt, lentSlots_nm, lentAt_nil, lentAt_dt, lentAt_nm, mSl, mPart, mPart0, mItV, mItR1, mItR2, mItE, mMe, mMeEnd, mSto, resA, resAs, ofO, tgt, tgtL, D.frz, D.pure, D.pureL, D.frzL, mFail, mFailS, truD, List.replicate_succ, fLt, fLe, fGt, fGe, e1, e2, lc, et, np, np1, np2, back, Yv.sizeOk, nI_frz, fS]
def shT (p : List Nat) : Str := (Yv.PT p).shown
theorem rp_T {n : Nat} {p : List Nat} (h : IsT n p) (h2 : n ≤ 24) : pRepr [TN p] = some (.str (shT p)) ∧ pNe (.str (shT p)) (.str (shT p)) = some (.bl false) := by
  have d := dat_T (l := p) 0 fun x m => by have := h.lt x m; omega
  exact ⟨d.repr (by omega) (by rw [h.len]; omega), d.same⟩
theorem rs2 (j : Nat) {d : Yv.D} {n : Nat} (n1 : 1 ≤ n) (n2 : n ≤ 24) {p q : List Nat} (hp : IsT n p) (hq : IsT n q) : r2 (j + 7) [some (d), some (.int (n : Int)), some (TN p), some (TN q), some (TN (idt n)), none, none, none, none, none, none, none, none, none, none, none, none] = .nx [some (d), some (.int (n : Int)), some (TN p), some (TN q), some (TN (idt n)), none, none, none, none, none, none, none, none, none, none, none, none] := by
  have e1 := t_still (j + 3) n n1 n2
  obtain ⟨s1, s2⟩ := rp_T (idt_T n) n2
  have e2 := t_behind j hp hq n1 n2
  have e3 := t__law_then (j + 6) (n := n) hp.lt hq.len (by rw [hp.len]; omega)
  obtain ⟨s3, s4⟩ := rp_T (hp.thn hq) n2
  have e4 := t_back (j + 1) hp n1 n2
  have e5 := t__law_back (j + 6) hp n2
  obtain ⟨s5, s6⟩ := rp_T hp.bk n2
  unfold r2
  have fS : (TN (idt n)).frz = TN (idt n) := frz_of_pure (TP_pure _)
  have pS : (TN (idt n)).pure = true := TP_pure _
  generalize TN (idt n) = SS at *
  simp [callM, somes, pureOut, finP, CR.nox, mSs, mSeq, mPass, mRetM, mRetN, mMove, mDo, mAsg, mIfS, mFor, mPar, allDt, mAndV, mOrV, mNotV, mBl, mTru, mAnd, mOr, mNot, mIf, mOp1, mOp2, mOpL, mL, mNil, mCons, mVar, mC, mCh, mVal, valA, mFz, mDt, mTup, mLst, mDct0, mCall, mPerm, permA, lentSlots_pure, back_pure, lentSlots_nil, lentSlots_dt, lentSlots_nm, lentAt_nil, lentAt_dt, lentAt_nm, mSl, mPart, mPart0, mItV, mItR1, mItR2, mItE, mMe, mMeEnd, mSto, resA, resAs, ofO, tgt, tgtL, D.frz, D.pure, D.pureL, D.frzL, mFail, mFailS, truD, List.replicate_succ, fLt, fLe, fGt, fGe, e1, e2, e3, e4, e5, s1, s2, s3, s4, s5, s6, nI_pure, pure_int, pS]
theorem rs3 (j : Nat) {d : Yv.D} {n : Nat} (n2 : n ≤ 24) {p q : List Nat} (hp : IsT n p) : r3 (j + 7) [some (d), some (.int (n : Int)), some (TN p), some (TN q), some (TN (idt n)), none, none, none, none, none, none, none, none, none, none, none, none] = .nx [some (d), some (.int (n : Int)), some (TN p), some (TN q), some (TN (idt n)), some (LR true (rds n p)), none, none, none, none, none, none, none, none, none, none, none] := by
  have e1 := t__law_rounds (j + 6) hp n2
  unfold r3
  have fS : (TN (idt n)).frz = TN (idt n) := frz_of_pure (TP_pure _)
  have pS : (TN (idt n)).pure = true := TP_pure _
  generalize TN (idt n) = SS at *
  simp [callM, somes, pureOut, finP, CR.nox, mSs, mSeq, mPass, mRetM, mRetN, mMove, mDo, mAsg, mIfS, mFor, mPar, allDt, mAndV, mOrV, mNotV, mBl, mTru, mAnd, mOr, mNot, mIf, mOp1, mOp2, mOpL, mL, mNil, mCons, mVar, mC, mCh, mVal, valA, mFz, mDt, mTup, mLst, mDct0, mCall, mPerm, permA, lentSlots_pure, back_pure, lentSlots_nil, lentSlots_dt, lentSlots_nm, lentAt_nil, lentAt_dt, lentAt_nm, mSl, mPart, mPart0, mItV, mItR1, mItR2, mItE, mMe, mMeEnd, mSto, resA, resAs, ofO, tgt, tgtL, D.frz, D.pure, D.pureL, D.frzL, mFail, mFailS, truD, List.replicate_succ, fLt, fLe, fGt, fGe, e1, nI_pure]
def shR (n : Nat) (p : List Nat) : Str := (PyData.tuple ((rds n p).map Yv.PT)).shown
theorem rp_R {n : Nat} {p : List Nat} (h : IsT n p) (h2 : n ≤ 24) : pRepr [TR (rds n p)] = some (.str (shR n p)) ∧ pNe (.str (shR n p)) (.str (shR n p)) = some (.bl false) := by
  have q := rds_ok h
  have hl := q.lt h
  have hm : ∀ r ∈ rds n p, r.length ≤ n := fun r m => by obtain ⟨b, hb, rfl⟩ := q.orb r m; rw [orb_len]; exact (h.per_ok hb).2.1
  have fl := flat_le q.nd hl
  have rl : (rds n p).length ≤ 24 := by
    have : ∀ {R : List (List Nat)}, (∀ r ∈ R, 1 < r.length) → R.length ≤ R.flatten.length := fun {R} => by
      induction R with
      | nil => intro _; simp
      | cons r R ih => intro w; have := w r (by simp); have := ih fun r m => w r (by simp [m]); simp only [List.length_cons, List.flatten_cons, List.length_append]; omega
    have := this q.two; omega
  have d := dat_R h2 hl hm
  exact ⟨d.repr (by omega) (by omega), d.same⟩
theorem rs4 (j : Nat) {d : Yv.D} {n : Nat} (n1 : 1 ≤ n) (n2 : n ≤ 24) {p q : List Nat} (hp : IsT n p) : r4 (j + 7) [some (d), some (.int (n : Int)), some (TN p), some (TN q), some (TN (idt n)), some (LR true (rds n p)), none, none, none, none, none, none, none, none, none, none, none] = .nx [some (d), some (.int (n : Int)), some (TN p), some (TN q), some (TN (idt n)), some (LR true (rds n p)), none, none, none, none, none, none, none, none, none, none, none] := by
  have e1 := t_rounds_of (j + 1) hp n1 n2
  have e2 := t_turn_of_rounds (j + 2) hp n1 n2
  obtain ⟨s1, s2⟩ := rp_R hp n2
  obtain ⟨s3, s4⟩ := rp_T hp n2
  unfold r4
  have fS : (TN (idt n)).frz = TN (idt n) := frz_of_pure (TP_pure _)
  have pS : (TN (idt n)).pure = true := TP_pure _
  generalize TN (idt n) = SS at *
  simp [callM, somes, pureOut, finP, CR.nox, mSs, mSeq, mPass, mRetM, mRetN, mMove, mDo, mAsg, mIfS, mFor, mPar, allDt, mAndV, mOrV, mNotV, mBl, mTru, mAnd, mOr, mNot, mIf, mOp1, mOp2, mOpL, mL, mNil, mCons, mVar, mC, mCh, mVal, valA, mFz, mDt, mTup, mLst, mDct0, mCall, mPerm, permA, lentSlots_pure, back_pure, lentSlots_nil, lentSlots_dt, lentSlots_nm, lentAt_nil, lentAt_dt, lentAt_nm, mSl, mPart, mPart0, mItV, mItR1, mItR2, mItE, mMe, mMeEnd, mSto, resA, resAs, ofO, tgt, tgtL, D.frz, D.pure, D.pureL, D.frzL, mFail, mFailS, truD, List.replicate_succ, fLt, fLe, fGt, fGe, e1, e2, tupOf_R, s1, s2, s3, s4, nI_pure, LR_pure]
theorem rs5 (j : Nat) {d : Yv.D} {n : Nat} {p q : List Nat} : r5 (j + 7) [some (d), some (.int (n : Int)), some (TN p), some (TN q), some (TN (idt n)), some (LR true (rds n p)), none, none, none, none, none, none, none, none, none, none, none] = .nx [some (d), some (.int (n : Int)), some (TN p), some (TN q), some (TN (idt n)), some (LR true (rds n p)), some (.int 1), none, none, none, none, none, none, none, none, none, none] := by
  unfold r5
  have fS : (TN (idt n)).frz = TN (idt n) := frz_of_pure (TP_pure _)
  have pS : (TN (idt n)).pure = true := TP_pure _
  generalize TN (idt n) = SS at *
  simp [callM, somes, pureOut, finP, CR.nox, mSs, mSeq, mPass, mRetM, mRetN, mMove, mDo, mAsg, mIfS, mFor, mPar, allDt, mAndV, mOrV, mNotV, mBl, mTru, mAnd, mOr, mNot, mIf, mOp1, mOp2, mOpL, mL, mNil, mCons, mVar, mC, mCh, mVal, valA, mFz, mDt, mTup, mLst, mDct0, mCall, mPerm, permA, lentSlots_pure, back_pure, lentSlots_nil, lentSlots_dt, lentSlots_nm, lentAt_nil, lentAt_dt, lentAt_nm, mSl, mPart, mPart0, mItV, mItR1, mItR2, mItE, mMe, mMeEnd, mSto, resA, resAs, ofO, tgt, tgtL, D.frz, D.pure, D.pureL, D.frzL, mFail, mFailS, truD, List.replicate_succ, fLt, fLe, fGt, fGe]
end Lw

set_option Elab.async false
set_option linter.all false
set_option maxRecDepth 100000
set_option maxHeartbeats 4000000
namespace Lw
open PySem L2 Yv Mt

theorem rs6 (j : Nat) {d : Yv.D} {n : Nat} (n2 : n ≤ 24) {p q : List Nat} (h : IsT n p) : ∃ a7, r6 (j + 7) [some (d), some (.int (n : Int)), some (TN p), some (TN q), some (TN (idt n)), some (LR true (rds n p)), some (.int 1), none, none, none, none, none, none, none, none, none, none] = .nx [some (d), some (.int (n : Int)), some (TN p), some (TN q), some (TN (idt n)), some (LR false (rds n p)), some (.int (ord (rds n p) : Nat)), a7, none, none, none, none, none, none, none, none, none] := by
  have q' := rds_ok h
  have fS : (TN (idt n)).frz = TN (idt n) := frz_of_pure (TP_pure _)
  have pS : (TN (idt n)).pure = true := TP_pure _
  generalize TN (idt n) = SS at *

  obtain ⟨δ', g1, g2⟩ := for_inv (P := [0]) (mi := mItV (mVar 5)) (t := .nm 7) (b := (mSs [(mAsg [0] (.nm 6) (mOp2 pDiv (mOp2 pMul (mVar 6) (mOpL pLen (mL [(mVar 7)]))) (mCall (fm__law_common (j + 7)) (mL [(mVar 6), (mOpL pLen (mL [(mVar 7)]))]))))]))
    (δ := [some (d), some (.int (n : Int)), some (TN p), some (TN q), some (SS), some (LR true (rds n p)), some (.int 1), none, none, none, none, none, none, none, none, none, none]) (δ1 := [some (d), some (.int (n : Int)), some (TN p), some (TN q), some (SS), some (LR false (rds n p)), some (.int 1), none, none, none, none, none, none, none, none, none, none]) (ds := (rds n p).map fun r => TN r)
    (fun i δ => ∃ a, δ = [some (d), some (.int (n : Int)), some (TN p), some (TN q), some (SS), some (LR false (rds n p)), some (.int (ordF 1 ((rds n p).take i) : Nat)), a, none, none, none, none, none, none, none, none, none])
    (by simp [callM, somes, pureOut, finP, CR.nox, mSs, mSeq, mPass, mRetM, mRetN, mMove, mDo, mAsg, mIfS, mFor, mPar, allDt, mAndV, mOrV, mNotV, mBl, mTru, mAnd, mOr, mNot, mIf, mOp1, mOp2, mOpL, mL, mNil, mCons, mVar, mC, mCh, mVal, valA, mFz, mDt, mTup, mLst, mDct0, mCall, mPerm, permA, lentSlots_pure, back_pure, lentSlots_nil, lentSlots_dt, lentSlots_nm, lentAt_nil, lentAt_dt, lentAt_nm, mSl, mPart, mPart0, mItV, mItR1, mItR2, mItE, mMe, mMeEnd, mSto, resA, resAs, ofO, tgt, tgtL, D.frz, D.pure, D.pureL, D.frzL, mFail, mFailS, truD, List.replicate_succ, fLt, fLe, fGt, fGe, nI_pure, itF, LR_frz, LR_pure]) ⟨none, rfl⟩ (by
      rintro i x δ w ⟨a, rfl⟩
      obtain ⟨r, hr, rfl⟩ := LR_at w
      have mr : r ∈ rds n p := List.mem_of_getElem? hr
      obtain ⟨o1, o2⟩ := ord_le h n2 i
      have rl : r.length ≤ n := by
        obtain ⟨b, hb, rfl⟩ := q'.orb r mr
        rw [orb_len]; exact (h.per_ok hb).2.1
      have rl2 := q'.two r mr
      have em := pMul_nat (ordF 1 ((rds n p).take i)) r.length (by omega) (by omega)
      have ec := t__law_common (j + 6) (ordF 1 ((rds n p).take i)) r.length (by omega)
      have gp : 0 < Nat.gcd (ordF 1 ((rds n p).take i)) r.length := Nat.gcd_pos_of_pos_left _ o1
      have gl : Nat.gcd (ordF 1 ((rds n p).take i)) r.length ≤ r.length := Nat.le_of_dvd (by omega) (Nat.gcd_dvd_right _ _)
      have ed := pDiv_nat (ordF 1 ((rds n p).take i) * r.length) _ gp (by omega)
      rw [← ordF_take hr] at ed
      generalize ordF 1 ((rds n p).take i) * r.length = mm at em ed
      exact ⟨[some (d), some (.int (n : Int)), some (TN p), some (TN q), some (SS), some (LR false (rds n p)), some (.int (ordF 1 ((rds n p).take i) : Nat)), some (TN r), none, none, none, none, none, none, none, none, none], [some (d), some (.int (n : Int)), some (TN p), some (TN q), some (SS), some (LR false (rds n p)), some (.int (ordF 1 ((rds n p).take (i + 1)) : Nat)), some (TN r), none, none, none, none, none, none, none, none, none], by simp [callM, somes, pureOut, finP, CR.nox, mSs, mSeq, mPass, mRetM, mRetN, mMove, mDo, mAsg, mIfS, mFor, mPar, allDt, mAndV, mOrV, mNotV, mBl, mTru, mAnd, mOr, mNot, mIf, mOp1, mOp2, mOpL, mL, mNil, mCons, mVar, mC, mCh, mVal, valA, mFz, mDt, mTup, mLst, mDct0, mCall, mPerm, permA, lentSlots_pure, back_pure, lentSlots_nil, lentSlots_dt, lentSlots_nm, lentAt_nil, lentAt_dt, lentAt_nm, mSl, mPart, mPart0, mItV, mItR1, mItR2, mItE, mMe, mMeEnd, mSto, resA, resAs, ofO, tgt, tgtL, D.frz, D.pure, D.pureL, D.frzL, mFail, mFailS, truD, List.replicate_succ, fLt, fLe, fGt, fGe], by simp [callM, somes, pureOut, finP, CR.nox, mSs, mSeq, mPass, mRetM, mRetN, mMove, mDo, mAsg, mIfS, mFor, mPar, allDt, mAndV, mOrV, mNotV, mBl, mTru, mAnd, mOr, mNot, mIf, mOp1, mOp2, mOpL, mL, mNil, mCons, mVar, mC, mCh, mVal, valA, mFz, mDt, mTup, mLst, mDct0, mCall, mPerm, permA, lentSlots_pure, back_pure, lentSlots_nil, lentSlots_dt, lentSlots_nm, lentAt_nil, lentAt_dt, lentAt_nm, mSl, mPart, mPart0, mItV, mItR1, mItR2, mItE, mMe, mMeEnd, mSto, resA, resAs, ofO, tgt, tgtL, D.frz, D.pure, D.pureL, D.frzL, mFail, mFailS, truD, List.replicate_succ, fLt, fLe, fGt, fGe, pLen_T, em, ec, ed], _, rfl⟩)
  obtain ⟨a, rfl⟩ := g2
  rw [List.length_map, List.take_length] at g1
  exact ⟨a, g1⟩
theorem tms_0 {n : Nat} (p : List Nat) : tms n p 0 = idt n := by 
  unfold tms idt
  have e : (List.range n).map (it p 0) = (List.range n).map id := List.map_congr_left fun x _ => rfl
  rw [e, List.map_id]
theorem shI (i : Int) (h : i.natAbs < 10 ^ 9) : ∃ s, pRepr [.int i] = some (.str s) ∧ pNe (.str s) (.str s) = some (.bl false) := by
  have d := dat_int 0 h
  exact ⟨_, d.repr (by omega) (by omega), d.same⟩
theorem rs7 (j : Nat) {d : Yv.D} {n : Nat} (n1 : 1 ≤ n) (n2 : n ≤ 24) {p q : List Nat} (h : IsT n p) {a7 : Option Yv.D} : r7 (j + 7) [some (d), some (.int (n : Int)), some (TN p), some (TN q), some (TN (idt n)), some (LR false (rds n p)), some (.int (ord (rds n p) : Nat)), a7, none, none, none, none, none, none, none, none, none] = .nx [some (d), some (.int (n : Int)), some (TN p), some (TN q), some (TN (idt n)), some (LR false (rds n p)), some (.int (ord (rds n p) : Nat)), a7, none, none, none, none, none, none, none, none, none] := by
  have q' := rds_ok h
  obtain ⟨o1, o2, o3⟩ := q'.ord h n2
  have e1 := t_order_of (j + 1) h n1 n2
  have e2 := t_times (j + 1) h n1 n2 (ord (rds n p) : Nat) (by omega) (by omega)
  rw [Int.emod_self, Int.toNat_zero, tms_0] at e2
  obtain ⟨s, s1, s2⟩ := shI ((ord (rds n p) : Nat) : Int) (by omega)
  have e3 := pNe_T (a := idt n) (b := idt n) (fun x m => by have := (idt_T n).lt x m; omega) (fun x m => by have := (idt_T n).lt x m; omega)
  rw [decide_eq_true rfl] at e3
  unfold r7
  generalize ((ord (rds n p) : Nat) : Int) = oo at *
  have fS : (TN (idt n)).frz = TN (idt n) := frz_of_pure (TP_pure _)
  have pS : (TN (idt n)).pure = true := TP_pure _
  generalize TN (idt n) = SS at *
  simp [callM, somes, pureOut, finP, CR.nox, mSs, mSeq, mPass, mRetM, mRetN, mMove, mDo, mAsg, mIfS, mFor, mPar, allDt, mAndV, mOrV, mNotV, mBl, mTru, mAnd, mOr, mNot, mIf, mOp1, mOp2, mOpL, mL, mNil, mCons, mVar, mC, mCh, mVal, valA, mFz, mDt, mTup, mLst, mDct0, mCall, mPerm, permA, lentSlots_pure, back_pure, lentSlots_nil, lentSlots_dt, lentSlots_nm, lentAt_nil, lentAt_dt, lentAt_nm, mSl, mPart, mPart0, mItV, mItR1, mItR2, mItE, mMe, mMeEnd, mSto, resA, resAs, ofO, tgt, tgtL, D.frz, D.pure, D.pureL, D.frzL, mFail, mFailS, truD, List.replicate_succ, fLt, fLe, fGt, fGe, e1, e2, s1, s2, e3, pInt, nI_pure]
/-! how many pairs are out of their sequence -/
def icnt : List Nat → Nat
  | [] => 0
  | x :: l => (l.filter fun y => decide (y < x)).length + icnt l
theorem xs1_cnt (f : Nat → Bool) : ∀ (l : List Nat), xs1 f l = oddB (l.filter f).length
  | [] => rfl
  | y :: l => by
    simp only [xs1, xs1_cnt f l, List.filter_cons]
    cases f y
    · simp
    · simp only [if_true, List.length_cons, oddB_add]
      cases oddB (l.filter f).length <;> rfl
theorem inv_cnt : ∀ (l : List Nat), inv l = oddB (icnt l)
  | [] => rfl
  | x :: l => by
    have := inv_cnt l
    unfold inv at this ⊢
    simp only [XP, icnt, oddB_add, this, xs1_cnt]
def cntAt (p : List Nat) (i : Nat) : Nat := ((p.drop (i + 1)).filter fun y => decide (y < ap p i)).length
theorem cnt_sum : ∀ (p : List Nat), ((List.range p.length).map fun i => ((cntAt p i : Nat) : Int)).sum = ((icnt p : Nat) : Int)
  | [] => rfl
  | x :: l => by
    rw [List.length_cons, List.range_succ_eq_map, List.map_cons, List.sum_cons, List.map_map]
    have e : ((fun i => ((cntAt (x :: l) i : Nat) : Int)) ∘ Nat.succ) = fun i => ((cntAt l i : Nat) : Int) := by
      funext i; simp [cntAt, ap, Function.comp]
    rw [e, cnt_sum l]
    simp [cntAt, ap, icnt]
def ltF (b : Nat) (d : Yv.D) : Option Yv.D := if unI d < b then some d else none
theorem ltF_nI (b : Nat) (l : List Nat) : (nI l).filterMap (ltF b) = nI (l.filter fun y => decide (y < b)) := by
  induction l with
  | nil => rfl
  | cons x l ih =>
    rw [nI_cons, List.filterMap_cons]
    have : ltF b (.int (x : Int)) = if x < b then some (.int (x : Int)) else none := by show (if (x : Int).toNat < b then some (Yv.D.int (x : Int)) else none) = _; rw [Int.toNat_natCast]
    rw [this]
    by_cases c : x < b
    · rw [if_pos c, List.filter_cons_of_pos (by simpa using c), nI_cons, ← ih]
    · rw [if_neg c, List.filter_cons_of_neg (by simpa using c)]; exact ih
def cntD (p : List Nat) (d : Yv.D) : Yv.D := .int (cntAt p (unI d) : Nat)
theorem icnt_le : ∀ (p : List Nat), icnt p ≤ p.length * p.length
  | [] => by simp [icnt]
  | x :: l => by
    have := icnt_le l
    have := List.length_filter_le (fun y => decide (y < x)) l
    simp only [icnt, List.length_cons, Nat.add_mul, Nat.mul_add]; omega
theorem rs8 (j : Nat) {d : Yv.D} {n : Nat} (n2 : n ≤ 24) {p q : List Nat} (h : IsT n p) {a7 : Option Yv.D} : r8 (j + 7) [some (d), some (.int (n : Int)), some (TN p), some (TN q), some (TN (idt n)), some (LR false (rds n p)), some (.int (ord (rds n p) : Nat)), a7, none, none, none, none, none, none, none, none, none] = .nx [some (d), some (.int (n : Int)), some (TN p), some (TN q), some (TN (idt n)), some (LR false (rds n p)), some (.int (ord (rds n p) : Nat)), a7, some (.int (icnt p : Nat)), none, none, none, none, none, none, none, none] := by
  have er := rg1_nat n (by omega)
  unfold r8
  have fS : (TN (idt n)).frz = TN (idt n) := frz_of_pure (TP_pure _)
  have pS : (TN (idt n)).pure = true := TP_pure _
  generalize TN (idt n) = SS at *
  generalize ((ord (rds n p) : Nat) : Int) = oo at *
  have hin : ∀ (x : Nat), x < n → mLc (mItV (mSl (mVar 2) (mPart (mOp2 pAdd (mVar 15) (mC (.int 1)))) mPart0)) (.nm 16) (mBl (mOp2 (pOrd fLt gLt) (mVar 16) (mOp2 pIx (mVar 2) (mVar 15)))) (mVar 16) [16]
      [some (d), some (.int (n : Int)), some (TN p), some (TN q), some (SS), some (LR false (rds n p)), some (.int oo), a7, none, none, none, none, none, none, none, some (.int (x : Int)), none] = .ok (.dt (LS true ((p.drop (x + 1)).filter fun y => decide (y < ap p x)))) [some (d), some (.int (n : Int)), some (TN p), some (TN q), some (SS), some (LR false (rds n p)), some (.int oo), a7, none, none, none, none, none, none, none, some (.int (x : Int)), none] := by
    intro x hx
    have s2 := slT (nI_pure p) (some ((x + 1 : Nat) : Int)) none
    rw [cut_lo] at s2
    have av : pAdd (.int (x : Int)) (.int 1) = some (.int ((x + 1 : Nat) : Int)) := rfl
    have e3 : (nI p).drop (x + 1) = nI (p.drop (x + 1)) := by unfold nI; rw [List.map_drop]
    rw [e3] at s2
    generalize ((x + 1 : Nat) : Int) = x1 at *
    have ei := pIx_T (l := p) (i := x) (by rw [h.len]; exact hx)
    have hm : ∀ y ∈ p.drop (x + 1), y < n := fun y m => h.lt y (List.mem_of_mem_drop m)
    have hl2 : (p.drop (x + 1)).length ≤ 24 := by rw [List.length_drop, h.len]; omega
    generalize p.drop (x + 1) = l2 at *
    have lc := lc_filt (mi := mItV (mSl (mVar 2) (mPart (mOp2 pAdd (mVar 15) (mC (.int 1)))) mPart0)) (t := .nm 16) (tt := mBl (mOp2 (pOrd fLt gLt) (mVar 16) (mOp2 pIx (mVar 2) (mVar 15)))) (te := mVar 16) (vs := [16])
      (δ := [some (d), some (.int (n : Int)), some (TN p), some (TN q), some (SS), some (LR false (rds n p)), some (.int oo), a7, none, none, none, none, none, none, none, some (.int (x : Int)), none]) (δ1 := [some (d), some (.int (n : Int)), some (TN p), some (TN q), some (SS), some (LR false (rds n p)), some (.int oo), a7, none, none, none, none, none, none, none, some (.int (x : Int)), none]) (ds := nI l2)
      (ltF (ap p x)) (by simp [callM, somes, pureOut, finP, CR.nox, mSs, mSeq, mPass, mRetM, mRetN, mMove, mDo, mAsg, mIfS, mFor, mPar, allDt, mAndV, mOrV, mNotV, mBl, mTru, mAnd, mOr, mNot, mIf, mOp1, mOp2, mOpL, mL, mNil, mCons, mVar, mC, mCh, mVal, valA, mFz, mDt, mTup, mLst, mDct0, mCall, mPerm, permA, lentSlots_pure, back_pure, lentSlots_nil, lentSlots_dt, lentSlots_nm, lentAt_nil, lentAt_dt, lentAt_nm, mSl, mPart, mPart0, mItV, mItR1, mItR2, mItE, mMe, mMeEnd, mSto, resA, resAs, ofO, tgt, tgtL, D.frz, D.pure, D.pureL, D.frzL, mFail, mFailS, truD, List.replicate_succ, fLt, fLe, fGt, fGe, av, s2, itF, nI_pure, nI_frz]) rfl (by rw [nI_len]; omega) (fun y m => by
        obtain ⟨z, mz, rfl⟩ := nI_mem m
        have eo : pOrd fLt gLt (.int (z : Int)) (.int (ap p x : Nat)) = some (.bl (decide (z < ap p x))) := by simp only [pOrd, fLt]; congr 2; simp
        generalize ap p x = bb at *
        by_cases c : z < bb
        · simp [callM, somes, pureOut, finP, CR.nox, mSs, mSeq, mPass, mRetM, mRetN, mMove, mDo, mAsg, mIfS, mFor, mPar, allDt, mAndV, mOrV, mNotV, mBl, mTru, mAnd, mOr, mNot, mIf, mOp1, mOp2, mOpL, mL, mNil, mCons, mVar, mC, mCh, mVal, valA, mFz, mDt, mTup, mLst, mDct0, mCall, mPerm, permA, lentSlots_pure, back_pure, lentSlots_nil, lentSlots_dt, lentSlots_nm, lentAt_nil, lentAt_dt, lentAt_nm, mSl, mPart, mPart0, mItV, mItR1, mItR2, mItE, mMe, mMeEnd, mSto, resA, resAs, ofO, tgt, tgtL, D.frz, D.pure, D.pureL, D.frzL, mFail, mFailS, truD, List.replicate_succ, fLt, fLe, fGt, fGe, lcStep, others, wipeD, backD, List.range_succ, ei, eo, ltF, unI, c]
        · simp [callM, somes, pureOut, finP, CR.nox, mSs, mSeq, mPass, mRetM, mRetN, mMove, mDo, mAsg, mIfS, mFor, mPar, allDt, mAndV, mOrV, mNotV, mBl, mTru, mAnd, mOr, mNot, mIf, mOp1, mOp2, mOpL, mL, mNil, mCons, mVar, mC, mCh, mVal, valA, mFz, mDt, mTup, mLst, mDct0, mCall, mPerm, permA, lentSlots_pure, back_pure, lentSlots_nil, lentSlots_dt, lentSlots_nm, lentAt_nil, lentAt_dt, lentAt_nm, mSl, mPart, mPart0, mItV, mItR1, mItR2, mItE, mMe, mMeEnd, mSto, resA, resAs, ofO, tgt, tgtL, D.frz, D.pure, D.pureL, D.frzL, mFail, mFailS, truD, List.replicate_succ, fLt, fLe, fGt, fGe, lcStep, others, wipeD, backD, List.range_succ, ei, eo, ltF, unI, c])
    rw [ltF_nI] at lc
    exact lc
  have lc := lc_map (mi := mItR1 (mL [(mVar 1)])) (t := .nm 15) (tt := mYes) (te := mOpL pLen (mL [(mLc (mItV (mSl (mVar 2) (mPart (mOp2 pAdd (mVar 15) (mC (.int 1)))) mPart0)) (.nm 16) (mBl (mOp2 (pOrd fLt gLt) (mVar 16) (mOp2 pIx (mVar 2) (mVar 15)))) (mVar 16) [16])])) (vs := [15])
    (δ := [some (d), some (.int (n : Int)), some (TN p), some (TN q), some (SS), some (LR false (rds n p)), some (.int oo), a7, none, none, none, none, none, none, none, none, none]) (δ1 := [some (d), some (.int (n : Int)), some (TN p), some (TN q), some (SS), some (LR false (rds n p)), some (.int oo), a7, none, none, none, none, none, none, none, none, none]) (ds := nI (List.range n))
    (cntD p) (by simp [callM, somes, pureOut, finP, CR.nox, mSs, mSeq, mPass, mRetM, mRetN, mMove, mDo, mAsg, mIfS, mFor, mPar, allDt, mAndV, mOrV, mNotV, mBl, mTru, mAnd, mOr, mNot, mIf, mOp1, mOp2, mOpL, mL, mNil, mCons, mVar, mC, mCh, mVal, valA, mFz, mDt, mTup, mLst, mDct0, mCall, mPerm, permA, lentSlots_pure, back_pure, lentSlots_nil, lentSlots_dt, lentSlots_nm, lentAt_nil, lentAt_dt, lentAt_nm, mSl, mPart, mPart0, mItV, mItR1, mItR2, mItE, mMe, mMeEnd, mSto, resA, resAs, ofO, tgt, tgtL, D.frz, D.pure, D.pureL, D.frzL, mFail, mFailS, truD, List.replicate_succ, fLt, fLe, fGt, fGe, er, intsD_eq]) rfl (by rw [nI_len]; simp; omega) (fun y m => by
      obtain ⟨x, mx, rfl⟩ := nI_mem m
      have hi := hin x (by simpa using mx)
      have ec : cntD p (.int (x : Int)) = .int (((p.drop (x + 1)).filter fun y => decide (y < ap p x)).length : Nat) := by show Yv.D.int (cntAt p (x : Int).toNat : Nat) = _; rw [Int.toNat_natCast]; rfl
      rw [ec]
      generalize (p.drop (x + 1)).filter (fun y => decide (y < ap p x)) = l2 at *
      have el := pLen_L true l2
      simp [callM, somes, pureOut, finP, CR.nox, mSs, mSeq, mPass, mRetM, mRetN, mMove, mDo, mAsg, mIfS, mFor, mPar, allDt, mAndV, mOrV, mNotV, mBl, mTru, mAnd, mOr, mNot, mIf, mOp1, mOp2, mOpL, mL, mNil, mCons, mVar, mC, mCh, mVal, valA, mFz, mDt, mTup, mLst, mDct0, mCall, mPerm, permA, lentSlots_pure, back_pure, lentSlots_nil, lentSlots_dt, lentSlots_nm, lentAt_nil, lentAt_dt, lentAt_nm, mSl, mPart, mPart0, mItV, mItR1, mItR2, mItE, mMe, mMeEnd, mSto, resA, resAs, ofO, tgt, tgtL, D.frz, D.pure, D.pureL, D.frzL, mFail, mFailS, truD, List.replicate_succ, fLt, fLe, fGt, fGe, lcStep, others, wipeD, backD, mYes, List.range_succ, hi, el])
  have em : (nI (List.range n)).map (cntD p) = ((List.range p.length).map fun i => ((cntAt p i : Nat) : Int)).map Yv.D.int := by
    unfold nI; rw [List.map_map, List.map_map, h.len]; apply List.map_congr_left; intro x _; simp [cntD, unI]
  have es := sumI ((List.range p.length).map fun i => ((cntAt p i : Nat) : Int)) true
  rw [cnt_sum] at es
  rw [em] at lc
  generalize ((List.range p.length).map fun i => ((cntAt p i : Nat) : Int)).map Yv.D.int = zz at *
  simp only [mL] at lc
  simp [callM, somes, pureOut, finP, CR.nox, mSs, mSeq, mPass, mRetM, mRetN, mMove, mDo, mAsg, mIfS, mFor, mPar, allDt, mAndV, mOrV, mNotV, mBl, mTru, mAnd, mOr, mNot, mIf, mOp1, mOp2, mOpL, mL, mNil, mCons, mVar, mC, mCh, mVal, valA, mFz, mDt, mTup, mLst, mDct0, mCall, mPerm, permA, lentSlots_pure, back_pure, lentSlots_nil, lentSlots_dt, lentSlots_nm, lentAt_nil, lentAt_dt, lentAt_nm, mSl, mPart, mPart0, mItV, mItR1, mItR2, mItE, mMe, mMeEnd, mSto, resA, resAs, ofO, tgt, tgtL, D.frz, D.pure, D.pureL, D.frzL, mFail, mFailS, truD, List.replicate_succ, fLt, fLe, fGt, fGe, lc, es]
end Lw

set_option Elab.async false
set_option linter.all false
set_option maxRecDepth 100000
set_option maxHeartbeats 4000000
namespace Lw
open PySem L2 Yv Mt

theorem pEq_B (a b : Bool) : pEq (.bl a) (.bl b) = some (.bl (a == b)) := by cases a <;> cases b <;> rfl
theorem pNe_B (a b : Bool) : pNe (.bl a) (.bl b) = some (.bl (a != b)) := by cases a <;> cases b <;> rfl
theorem shBl (b : Bool) : ∃ s, pRepr [.bl b] = some (.str s) ∧ pNe (.str s) (.str s) = some (.bl false) := by
  have d := dat_bl b 0
  exact ⟨_, d.repr (by omega) (by omega), d.same⟩
theorem rs9 (j : Nat) {d : Yv.D} {n : Nat} (n1 : 1 ≤ n) (n2 : n ≤ 24) {p q : List Nat} (h : IsT n p) (g : IsT n q) {a7 : Option Yv.D} : r9 (j + 7) [some (d), some (.int (n : Int)), some (TN p), some (TN q), some (TN (idt n)), some (LR false (rds n p)), some (.int (ord (rds n p) : Nat)), a7, some (.int (icnt p : Nat)), none, none, none, none, none, none, none, none] = .nx [some (d), some (.int (n : Int)), some (TN p), some (TN q), some (TN (idt n)), some (LR false (rds n p)), some (.int (ord (rds n p) : Nat)), a7, some (.int (icnt p : Nat)), none, none, none, none, none, none, none, none] := by
  have e1 := t_is_even (j + 1) h n1 n2
  have e2 := t_is_even (j + 1) g n1 n2
  have e3 := t_is_even (j + 1) (h.thn g) n1 n2
  have e4 := t_behind j h g n1 n2
  rw [inv_thn h g] at e3
  have m1 : pMod (.int (icnt p : Nat)) (.int 2) = some (.int ((icnt p % 2 : Nat) : Int)) := pMod_nat _ 2 (by omega)
  have m2 : pEq (.int ((icnt p % 2 : Nat) : Int)) (.int 0) = some (.bl !inv p) := by
    rw [pEq_I, inv_cnt]; congr 2; unfold oddB
    rcases Nat.mod_two_eq_zero_or_one (icnt p) with z | z <;> rw [z] <;> rfl
  obtain ⟨s, s1, s2⟩ := shBl (!inv p)
  have b1 := pEq_B (!inv p) (!inv q)
  have b2 : pNe (.bl (!xor (inv p) (inv q))) (.bl ((!inv p) == (!inv q))) = some (.bl false) := by rw [pNe_B]; cases inv p <;> cases inv q <;> rfl
  unfold r9
  have fS : (TN (idt n)).frz = TN (idt n) := frz_of_pure (TP_pure _)
  have pS : (TN (idt n)).pure = true := TP_pure _
  generalize TN (idt n) = SS at *
  generalize ((ord (rds n p) : Nat) : Int) = oo at *
  generalize ((icnt p % 2 : Nat) : Int) = im at *
  generalize ((icnt p : Nat) : Int) = ic at *
  generalize (!xor (inv p) (inv q)) = x1 at *
  generalize ((!inv p) == (!inv q)) = x2 at *
  generalize (!inv p) = x3 at *
  generalize (!inv q) = x4 at *
  simp [callM, somes, pureOut, finP, CR.nox, mSs, mSeq, mPass, mRetM, mRetN, mMove, mDo, mAsg, mIfS, mFor, mPar, allDt, mAndV, mOrV, mNotV, mBl, mTru, mAnd, mOr, mNot, mIf, mOp1, mOp2, mOpL, mL, mNil, mCons, mVar, mC, mCh, mVal, valA, mFz, mDt, mTup, mLst, mDct0, mCall, mPerm, permA, lentSlots_pure, back_pure, lentSlots_nil, lentSlots_dt, lentSlots_nm, lentAt_nil, lentAt_dt, lentAt_nm, mSl, mPart, mPart0, mItV, mItR1, mItR2, mItE, mMe, mMeEnd, mSto, resA, resAs, ofO, tgt, tgtL, D.frz, D.pure, D.pureL, D.frzL, mFail, mFailS, truD, List.replicate_succ, fLt, fLe, fGt, fGe, e1, e2, e3, e4, m1, m2, s1, s2, b1, b2, nI_pure]
theorem rs10 (j : Nat) {c : Nat} {d : Yv.D} (h : Pot c d) (hc : c ≤ 700000000) {n : Nat} {p q : List Nat} {a7 : Option Yv.D} : ∃ (m : Int) (d' : Yv.D), r10 (j + 7) [some (d), some (.int (n : Int)), some (TN p), some (TN q), some (TN (idt n)), some (LR false (rds n p)), some (.int (ord (rds n p) : Nat)), a7, some (.int (icnt p : Nat)), none, none, none, none, none, none, none, none] = .nx [some (d'), some (.int (n : Int)), some (TN p), some (TN q), some (TN (idt n)), some (LR false (rds n p)), some (.int (ord (rds n p) : Nat)), a7, some (.int (icnt p : Nat)), some (.int m), none, none, none, none, none, none, none] ∧ -1000000 ≤ m ∧ m ≤ 1000000 ∧ Pot (c + 3) d' := by
  have np := h.np
  obtain ⟨v, d1, e1, lv, P1⟩ := t_takeI (j + 6) h (by omega) (u := 30) (by omega) (by omega)
  have np1 := P1.np
  obtain ⟨w, d2, e2, lw, P2⟩ := t_takeI (j + 6) P1 (by omega) (u := 30) (by omega) (by omega)
  have np2 := P2.np
  have a2 : pSub (.int 0) (.int (w : Int)) = some (.int (0 - (w : Int))) := rfl
  have a3 : pNeg (.int 1000000) = some (.int (-1000000)) := rfl
  generalize hw : 0 - (w : Int) = w1 at *
  generalize hk : (-1000000 : Int) = k1 at *
  obtain ⟨y, d3, e3, my, P3⟩ := t_of (j + 5) P2 (by omega) (o := true) (ds := [.int (v : Int), .int w1, .int 1000000, .int k1]) rfl (by simp) (by simp)
  obtain ⟨m, rfl, n1, n2⟩ : ∃ m : Int, y = .int m ∧ k1 ≤ m ∧ m ≤ 1000000 := by
    simp only [List.mem_cons, List.not_mem_nil, or_false] at my
    rcases my with rfl | rfl | rfl | rfl
    · exact ⟨v, rfl, by omega, by omega⟩
    · exact ⟨w1, rfl, by omega, by omega⟩
    · exact ⟨1000000, rfl, by omega, by omega⟩
    · exact ⟨k1, rfl, by omega, by omega⟩
  refine ⟨m, d3, ?_, n1, n2, P3⟩
  unfold r10
  have fS : (TN (idt n)).frz = TN (idt n) := frz_of_pure (TP_pure _)
  have pS : (TN (idt n)).pure = true := TP_pure _
  generalize TN (idt n) = SS at *
  generalize ((ord (rds n p) : Nat) : Int) = oo at *
  simp [callM, somes, pureOut, finP, CR.nox, mSs, mSeq, mPass, mRetM, mRetN, mMove, mDo, mAsg, mIfS, mFor, mPar, allDt, mAndV, mOrV, mNotV, mBl, mTru, mAnd, mOr, mNot, mIf, mOp1, mOp2, mOpL, mL, mNil, mCons, mVar, mC, mCh, mVal, valA, mFz, mDt, mTup, mLst, mDct0, mCall, mPerm, permA, lentSlots_pure, back_pure, lentSlots_nil, lentSlots_dt, lentSlots_nm, lentAt_nil, lentAt_dt, lentAt_nm, mSl, mPart, mPart0, mItV, mItR1, mItR2, mItE, mMe, mMeEnd, mSto, resA, resAs, ofO, tgt, tgtL, D.frz, D.pure, D.pureL, D.frzL, mFail, mFailS, truD, List.replicate_succ, fLt, fLe, fGt, fGe, e1, e2, e3, a2, a3, np, np1, np2, back, Yv.sizeOk, pInt]
theorem rs11 (j : Nat) {d : Yv.D} {n : Nat} {p q : List Nat} {a7 : Option Yv.D} {m : Int} : r11 (j + 7) [some (d), some (.int (n : Int)), some (TN p), some (TN q), some (TN (idt n)), some (LR false (rds n p)), some (.int (ord (rds n p) : Nat)), a7, some (.int (icnt p : Nat)), some (.int m), none, none, none, none, none, none, none] = .nx [some (d), some (.int (n : Int)), some (TN p), some (TN q), some (TN (idt n)), some (LR false (rds n p)), some (.int (ord (rds n p) : Nat)), a7, some (.int (icnt p : Nat)), some (.int m), some (TN (idt n)), none, none, none, none, none, none] := by
  unfold r11
  have fS : (TN (idt n)).frz = TN (idt n) := frz_of_pure (TP_pure _)
  have pS : (TN (idt n)).pure = true := TP_pure _
  generalize TN (idt n) = SS at *
  generalize ((ord (rds n p) : Nat) : Int) = oo at *
  simp [callM, somes, pureOut, finP, CR.nox, mSs, mSeq, mPass, mRetM, mRetN, mMove, mDo, mAsg, mIfS, mFor, mPar, allDt, mAndV, mOrV, mNotV, mBl, mTru, mAnd, mOr, mNot, mIf, mOp1, mOp2, mOpL, mL, mNil, mCons, mVar, mC, mCh, mVal, valA, mFz, mDt, mTup, mLst, mDct0, mCall, mPerm, permA, lentSlots_pure, back_pure, lentSlots_nil, lentSlots_dt, lentSlots_nm, lentAt_nil, lentAt_dt, lentAt_nm, mSl, mPart, mPart0, mItV, mItR1, mItR2, mItE, mMe, mMeEnd, mSto, resA, resAs, ofO, tgt, tgtL, D.frz, D.pure, D.pureL, D.frzL, mFail, mFailS, truD, List.replicate_succ, fLt, fLe, fGt, fGe, fS]
theorem tms_succ {n : Nat} {p : List Nat} (h : IsT n p) (j : Nat) : thn (tms n p j) p = tms n p (j + 1) := by
  unfold Mt.thn tms; rw [List.map_map]; exact List.map_congr_left fun x _ => rfl
theorem rs12 (j : Nat) {d : Yv.D} {n : Nat} (n2 : n ≤ 24) {p q : List Nat} (h : IsT n p) {a7 : Option Yv.D} {m : Int} : ∃ a11, r12 (j + 7) [some (d), some (.int (n : Int)), some (TN p), some (TN q), some (TN (idt n)), some (LR false (rds n p)), some (.int (ord (rds n p) : Nat)), a7, some (.int (icnt p : Nat)), some (.int m), some (TN (idt n)), none, none, none, none, none, none] = .nx [some (d), some (.int (n : Int)), some (TN p), some (TN q), some (TN (idt n)), some (LR false (rds n p)), some (.int (ord (rds n p) : Nat)), a7, some (.int (icnt p : Nat)), some (.int m), some (TN (tms n p (m % ((ord (rds n p) : Nat) : Int)).toNat)), a11, none, none, none, none, none] ∧ vsOk [a11] [0] = true := by
  have q' := rds_ok h
  obtain ⟨o1, o2, o3⟩ := q'.ord h n2
  have em : pMod (.int m) (.int (ord (rds n p) : Nat)) = some (.int (m % ((ord (rds n p) : Nat) : Int))) := pModI (by omega)
  have m0 := Int.emod_nonneg m (b := ((ord (rds n p) : Nat) : Int)) (by omega)
  have m1 := Int.emod_lt_of_pos m (b := ((ord (rds n p) : Nat) : Int)) (by omega)
  obtain ⟨z, hz⟩ : ∃ z : Nat, m % ((ord (rds n p) : Nat) : Int) = (z : Int) := ⟨_, (Int.toNat_of_nonneg m0).symm⟩
  rw [hz] at em ⊢
  rw [Int.toNat_natCast]
  have er := rg1_nat z (by omega)
  rw [← tms_0 p]
  have fS : (TN (tms n p 0)).frz = TN (tms n p 0) := frz_of_pure (TP_pure _)
  generalize hoo : ((ord (rds n p) : Nat) : Int) = oo at *
  obtain ⟨δ', g1, g2⟩ := for_inv (P := [0]) (mi := mItR1 (mL [(mOp2 pMod (mVar 9) (mVar 6))])) (t := .nm 11) (b := (mSs [(mAsg [0] (.nm 10) (mCall (fm__law_then (j + 7)) (mL [(mVar 10), (mVar 2)])))]))
    (δ := [some (d), some (.int (n : Int)), some (TN p), some (TN q), some (TN (tms n p 0)), some (LR false (rds n p)), some (.int oo), a7, some (.int (icnt p : Nat)), some (.int m), some (TN (tms n p 0)), none, none, none, none, none, none]) (δ1 := [some (d), some (.int (n : Int)), some (TN p), some (TN q), some (TN (tms n p 0)), some (LR false (rds n p)), some (.int oo), a7, some (.int (icnt p : Nat)), some (.int m), some (TN (tms n p 0)), none, none, none, none, none, none]) (ds := nI (List.range z))
    (fun i δ => ∃ a, δ = [some (d), some (.int (n : Int)), some (TN p), some (TN q), some (TN (tms n p 0)), some (LR false (rds n p)), some (.int oo), a7, some (.int (icnt p : Nat)), some (.int m), some (TN (tms n p i)), a, none, none, none, none, none] ∧ vsOk [a] [0] = true)
    (by generalize TN (tms n p 0) = SS at *; simp [callM, somes, pureOut, finP, CR.nox, mSs, mSeq, mPass, mRetM, mRetN, mMove, mDo, mAsg, mIfS, mFor, mPar, allDt, mAndV, mOrV, mNotV, mBl, mTru, mAnd, mOr, mNot, mIf, mOp1, mOp2, mOpL, mL, mNil, mCons, mVar, mC, mCh, mVal, valA, mFz, mDt, mTup, mLst, mDct0, mCall, mPerm, permA, lentSlots_pure, back_pure, lentSlots_nil, lentSlots_dt, lentSlots_nm, lentAt_nil, lentAt_dt, lentAt_nm, mSl, mPart, mPart0, mItV, mItR1, mItR2, mItE, mMe, mMeEnd, mSto, resA, resAs, ofO, tgt, tgtL, D.frz, D.pure, D.pureL, D.frzL, mFail, mFailS, truD, List.replicate_succ, fLt, fLe, fGt, fGe, em, er, intsD_eq]) ⟨none, rfl, rfl⟩ (by
      rintro i x δ w ⟨a, rfl, va⟩
      obtain ⟨y, my, rfl⟩ := nI_mem (List.mem_of_getElem? w)
      have e := t__law_then (j + 6) (n := n) (p := tms n p i) (q := p) (tms_T h i).lt h.len (by rw [(tms_T h i).len]; omega)
      rw [tms_succ h] at e
      generalize TN (tms n p 0) = SS at *
      exact ⟨[some (d), some (.int (n : Int)), some (TN p), some (TN q), some (SS), some (LR false (rds n p)), some (.int oo), a7, some (.int (icnt p : Nat)), some (.int m), some (TN (tms n p i)), some (.int (y : Int)), none, none, none, none, none], [some (d), some (.int (n : Int)), some (TN p), some (TN q), some (SS), some (LR false (rds n p)), some (.int oo), a7, some (.int (icnt p : Nat)), some (.int m), some (TN (tms n p (i + 1))), some (.int (y : Int)), none, none, none, none, none], by simp [callM, somes, pureOut, finP, CR.nox, mSs, mSeq, mPass, mRetM, mRetN, mMove, mDo, mAsg, mIfS, mFor, mPar, allDt, mAndV, mOrV, mNotV, mBl, mTru, mAnd, mOr, mNot, mIf, mOp1, mOp2, mOpL, mL, mNil, mCons, mVar, mC, mCh, mVal, valA, mFz, mDt, mTup, mLst, mDct0, mCall, mPerm, permA, lentSlots_pure, back_pure, lentSlots_nil, lentSlots_dt, lentSlots_nm, lentAt_nil, lentAt_dt, lentAt_nm, mSl, mPart, mPart0, mItV, mItR1, mItR2, mItE, mMe, mMeEnd, mSto, resA, resAs, ofO, tgt, tgtL, D.frz, D.pure, D.pureL, D.frzL, mFail, mFailS, truD, List.replicate_succ, fLt, fLe, fGt, fGe], by simp [callM, somes, pureOut, finP, CR.nox, mSs, mSeq, mPass, mRetM, mRetN, mMove, mDo, mAsg, mIfS, mFor, mPar, allDt, mAndV, mOrV, mNotV, mBl, mTru, mAnd, mOr, mNot, mIf, mOp1, mOp2, mOpL, mL, mNil, mCons, mVar, mC, mCh, mVal, valA, mFz, mDt, mTup, mLst, mDct0, mCall, mPerm, permA, lentSlots_pure, back_pure, lentSlots_nil, lentSlots_dt, lentSlots_nm, lentAt_nil, lentAt_dt, lentAt_nm, mSl, mPart, mPart0, mItV, mItR1, mItR2, mItE, mMe, mMeEnd, mSto, resA, resAs, ofO, tgt, tgtL, D.frz, D.pure, D.pureL, D.frzL, mFail, mFailS, truD, List.replicate_succ, fLt, fLe, fGt, fGe, e, nI_pure], _, rfl, rfl⟩)
  obtain ⟨a, rfl, va⟩ := g2
  rw [nI_len, List.length_range] at g1
  exact ⟨a, g1, va⟩
theorem rs13 (j : Nat) {d : Yv.D} {n : Nat} (n1 : 1 ≤ n) (n2 : n ≤ 24) {p q : List Nat} (h : IsT n p) {a7 a11 : Option Yv.D} {m : Int} (m1 : -1000000 ≤ m) (m2 : m ≤ 1000000) : r13 (j + 7) [some (d), some (.int (n : Int)), some (TN p), some (TN q), some (TN (idt n)), some (LR false (rds n p)), some (.int (ord (rds n p) : Nat)), a7, some (.int (icnt p : Nat)), some (.int m), some (TN (tms n p (m % ((ord (rds n p) : Nat) : Int)).toNat)), a11, none, none, none, none, none] = .nx [some (d), some (.int (n : Int)), some (TN p), some (TN q), some (TN (idt n)), some (LR false (rds n p)), some (.int (ord (rds n p) : Nat)), a7, some (.int (icnt p : Nat)), some (.int m), some (TN (tms n p (m % ((ord (rds n p) : Nat) : Int)).toNat)), a11, none, none, none, none, none] := by
  have e1 := t_times (j + 1) h n1 n2 m m1 m2
  obtain ⟨s1, s2⟩ := rp_T (tms_T h (m % ((ord (rds n p) : Nat) : Int)).toNat) n2
  unfold r13
  have fS : (TN (idt n)).frz = TN (idt n) := frz_of_pure (TP_pure _)
  have pS : (TN (idt n)).pure = true := TP_pure _
  generalize TN (idt n) = SS at *
  generalize (m % ((ord (rds n p) : Nat) : Int)).toNat = z at *
  generalize ((ord (rds n p) : Nat) : Int) = oo at *
  simp [callM, somes, pureOut, finP, CR.nox, mSs, mSeq, mPass, mRetM, mRetN, mMove, mDo, mAsg, mIfS, mFor, mPar, allDt, mAndV, mOrV, mNotV, mBl, mTru, mAnd, mOr, mNot, mIf, mOp1, mOp2, mOpL, mL, mNil, mCons, mVar, mC, mCh, mVal, valA, mFz, mDt, mTup, mLst, mDct0, mCall, mPerm, permA, lentSlots_pure, back_pure, lentSlots_nil, lentSlots_dt, lentSlots_nm, lentAt_nil, lentAt_dt, lentAt_nm, mSl, mPart, mPart0, mItV, mItR1, mItR2, mItE, mMe, mMeEnd, mSto, resA, resAs, ofO, tgt, tgtL, D.frz, D.pure, D.pureL, D.frzL, mFail, mFailS, truD, List.replicate_succ, fLt, fLe, fGt, fGe, e1, s1, s2, nI_pure]
theorem rs14 (j : Nat) {d : Yv.D} {n : Nat} (n1 : 1 ≤ n) (n2 : n ≤ 24) {p q : List Nat} (h : IsT n p) (g : IsT n q) {a7 a11 : Option Yv.D} {m : Int} : r14 (j + 7) [some (d), some (.int (n : Int)), some (TN p), some (TN q), some (TN (idt n)), some (LR false (rds n p)), some (.int (ord (rds n p) : Nat)), a7, some (.int (icnt p : Nat)), some (.int m), some (TN (tms n p (m % ((ord (rds n p) : Nat) : Int)).toNat)), a11, none, none, none, none, none] = .nx [some (d), some (.int (n : Int)), some (TN p), some (TN q), some (TN (idt n)), some (LR false (rds n p)), some (.int (ord (rds n p) : Nat)), a7, some (.int (icnt p : Nat)), some (.int m), some (TN (tms n p (m % ((ord (rds n p) : Nat) : Int)).toNat)), a11, none, none, none, none, none] := by
  have e1 := t_turned_by j h g n1 n2
  have e2 := t__law_back (j + 6) g n2
  have e3 := t__law_then (j + 6) (n := n) (p := bk q) (q := p) g.bk.lt h.len (by rw [g.bk.len]; omega)
  have e4 := t__law_then (j + 6) (n := n) (p := thn (bk q) p) (q := q) (g.bk.thn h).lt g.len (by rw [(g.bk.thn h).len]; omega)
  obtain ⟨s1, s2⟩ := rp_T ((g.bk.thn h).thn g) n2
  unfold r14
  have fS : (TN (idt n)).frz = TN (idt n) := frz_of_pure (TP_pure _)
  have pS : (TN (idt n)).pure = true := TP_pure _
  generalize TN (idt n) = SS at *
  generalize (m % ((ord (rds n p) : Nat) : Int)).toNat = z at *
  generalize ((ord (rds n p) : Nat) : Int) = oo at *
  simp [callM, somes, pureOut, finP, CR.nox, mSs, mSeq, mPass, mRetM, mRetN, mMove, mDo, mAsg, mIfS, mFor, mPar, allDt, mAndV, mOrV, mNotV, mBl, mTru, mAnd, mOr, mNot, mIf, mOp1, mOp2, mOpL, mL, mNil, mCons, mVar, mC, mCh, mVal, valA, mFz, mDt, mTup, mLst, mDct0, mCall, mPerm, permA, lentSlots_pure, back_pure, lentSlots_nil, lentSlots_dt, lentSlots_nm, lentAt_nil, lentAt_dt, lentAt_nm, mSl, mPart, mPart0, mItV, mItR1, mItR2, mItE, mMe, mMeEnd, mSto, resA, resAs, ofO, tgt, tgtL, D.frz, D.pure, D.pureL, D.frzL, mFail, mFailS, truD, List.replicate_succ, fLt, fLe, fGt, fGe, e1, e2, e3, e4, s1, s2, nI_pure]
end Lw

set_option Elab.async false
set_option linter.all false
set_option maxRecDepth 100000
set_option maxHeartbeats 4000000
namespace Lw
open PySem L2 Yv Mt

def five : List Yv.D := [.str "p", .non, .int 3, .tup [], .str "q"]
theorem five_pure : D.pureL five = true := rfl
theorem rs15 (j : Nat) {c : Nat} {d : Yv.D} (h : Pot c d) (hc : c ≤ 700000000) {n : Nat} (n2 : n ≤ 24) {p q : List Nat} {a7 a11 : Option Yv.D} {m : Int} :
    ∃ (ds : List Yv.D) (d' : Yv.D), r15 (j + 7) [some (d), some (.int (n : Int)), some (TN p), some (TN q), some (TN (idt n)), some (LR false (rds n p)), some (.int (ord (rds n p) : Nat)), a7, some (.int (icnt p : Nat)), some (.int m), some (TN (tms n p (m % ((ord (rds n p) : Nat) : Int)).toNat)), a11, none, none, none, none, none] = .nx [some (d'), some (.int (n : Int)), some (TN p), some (TN q), some (TN (idt n)), some (LR false (rds n p)), some (.int (ord (rds n p) : Nat)), some (.tup ds), some (.int (icnt p : Nat)), some (.int m), some (TN (tms n p (m % ((ord (rds n p) : Nat) : Int)).toNat)), a11, none, none, none, none, none] ∧ ds.length = n ∧ (∀ y ∈ ds, y ∈ five) ∧ Pot (c + n) d' := by
  have er := rg1_nat n (by omega)
  have np := h.np
  unfold r15
  have fS : (TN (idt n)).frz = TN (idt n) := frz_of_pure (TP_pure _)
  have pS : (TN (idt n)).pure = true := TP_pure _
  generalize TN (idt n) = SS at *
  generalize (m % ((ord (rds n p) : Nat) : Int)).toNat = z at *
  generalize ((ord (rds n p) : Nat) : Int) = oo at *
  obtain ⟨ys, δ', g1, g2⟩ := lc_inv (mi := mItR1 (mL [(mVar 1)])) (t := .nm 14) (tt := mYes) (te := (mCall (fm__law_of (j + 7)) (mL [(mVar 0), (mLst (mL [mFz (mC (.str "p")), mFz (mC (.non)), mFz (mC (.int 3)), mFz (mTup (mL [])), mFz (mC (.str "q"))]))]))) (vs := [14]) (δ := [some (d), some (.int (n : Int)), some (TN p), some (TN q), some (SS), some (LR false (rds n p)), some (.int oo), a7, some (.int (icnt p : Nat)), some (.int m), some (TN (tms n p z)), a11, none, none, none, none, none]) (δ1 := [some (d), some (.int (n : Int)), some (TN p), some (TN q), some (SS), some (LR false (rds n p)), some (.int oo), a7, some (.int (icnt p : Nat)), some (.int m), some (TN (tms n p z)), a11, none, none, none, none, none]) (ds := nI (List.range n))
    (fun i acc δ => ∃ d', δ = [some (d'), some (.int (n : Int)), some (TN p), some (TN q), some (SS), some (LR false (rds n p)), some (.int oo), a7, some (.int (icnt p : Nat)), some (.int m), some (TN (tms n p z)), a11, none, none, none, none, none] ∧ acc.length = i ∧ (∀ y ∈ acc, y ∈ five) ∧ Pot (c + i) d') (by simp [callM, somes, pureOut, finP, CR.nox, mSs, mSeq, mPass, mRetM, mRetN, mMove, mDo, mAsg, mIfS, mFor, mPar, allDt, mAndV, mOrV, mNotV, mBl, mTru, mAnd, mOr, mNot, mIf, mOp1, mOp2, mOpL, mL, mNil, mCons, mVar, mC, mCh, mVal, valA, mFz, mDt, mTup, mLst, mDct0, mCall, mPerm, permA, lentSlots_pure, back_pure, lentSlots_nil, lentSlots_dt, lentSlots_nm, lentAt_nil, lentAt_dt, lentAt_nm, mSl, mPart, mPart0, mItV, mItR1, mItR2, mItE, mMe, mMeEnd, mSto, resA, resAs, ofO, tgt, tgtL, D.frz, D.pure, D.pureL, D.frzL, mFail, mFailS, truD, List.replicate_succ, fLt, fLe, fGt, fGe, er, intsD_eq]) rfl (by rw [nI_len]; simp; omega) ⟨d, rfl, rfl, by simp, h⟩ (by
      rintro i x acc δ w ⟨d', rfl, hl, hm, P'⟩
      obtain ⟨y, my, rfl⟩ := nI_mem (List.mem_of_getElem? w)
      have hi : i < n := by have := (List.getElem?_eq_some_iff.mp w).1; rw [nI_len] at this; simpa using this
      obtain ⟨x, d2, e, mx, P2⟩ := t_of (j + 5) P' (by omega) (o := true) (ds := five) five_pure (by simp [five]) (by simp [five])
      have np' := P'.np
      have hx := pureL_iff.mp five_pure x mx
      refine .inl ⟨x, [some (d2), some (.int (n : Int)), some (TN p), some (TN q), some (SS), some (LR false (rds n p)), some (.int oo), a7, some (.int (icnt p : Nat)), some (.int m), some (TN (tms n p z)), a11, none, none, none, none, none], ?_, d2, rfl, by simp [hl], fun y my => ?_, P2⟩
      · unfold five at e
        simp [callM, somes, pureOut, finP, CR.nox, mSs, mSeq, mPass, mRetM, mRetN, mMove, mDo, mAsg, mIfS, mFor, mPar, allDt, mAndV, mOrV, mNotV, mBl, mTru, mAnd, mOr, mNot, mIf, mOp1, mOp2, mOpL, mL, mNil, mCons, mVar, mC, mCh, mVal, valA, mFz, mDt, mTup, mLst, mDct0, mCall, mPerm, permA, lentSlots_pure, back_pure, lentSlots_nil, lentSlots_dt, lentSlots_nm, lentAt_nil, lentAt_dt, lentAt_nm, mSl, mPart, mPart0, mItV, mItR1, mItR2, mItE, mMe, mMeEnd, mSto, resA, resAs, ofO, tgt, tgtL, D.frz, D.pure, D.pureL, D.frzL, mFail, mFailS, truD, List.replicate_succ, fLt, fLe, fGt, fGe, lcStep, others, wipeD, backD, mYes, List.range_succ, e, np', back, Yv.sizeOk]
      · rcases List.mem_append.mp my with my | my
        · exact hm y my
        · rw [List.mem_singleton.mp my]; exact mx)
  rw [nI_len, List.length_range] at g2
  obtain ⟨d', rfl, hl, hm, P'⟩ := g2
  refine ⟨ys, d', ?_, hl, hm, P'⟩
  have hp : D.pureL ys = true := pureL_iff.mpr fun y my => pureL_iff.mp five_pure y (hm y my)
  have et : pTupOf [.lst true ys] = some (.tup ys) := by simp [pTupOf, itS, itL, hp]
  simp only [mL] at g1
  simp [callM, somes, pureOut, finP, CR.nox, mSs, mSeq, mPass, mRetM, mRetN, mMove, mDo, mAsg, mIfS, mFor, mPar, allDt, mAndV, mOrV, mNotV, mBl, mTru, mAnd, mOr, mNot, mIf, mOp1, mOp2, mOpL, mL, mNil, mCons, mVar, mC, mCh, mVal, valA, mFz, mDt, mTup, mLst, mDct0, mCall, mPerm, permA, lentSlots_pure, back_pure, lentSlots_nil, lentSlots_dt, lentSlots_nm, lentAt_nil, lentAt_dt, lentAt_nm, mSl, mPart, mPart0, mItV, mItR1, mItR2, mItE, mMe, mMeEnd, mSto, resA, resAs, ofO, tgt, tgtL, D.frz, D.pure, D.pureL, D.frzL, mFail, mFailS, truD, List.replicate_succ, fLt, fLe, fGt, fGe, g1, et]
def pickD (ds : List Yv.D) (p : List Nat) (d : Yv.D) : Yv.D := ds.getD (ap (bk p) (unI d)) .non
def picked (n : Nat) (ds : List Yv.D) (p : List Nat) : List Yv.D := (List.range n).map fun x => ds.getD (ap (bk p) x) .non
theorem pIx_tup {ds : List Yv.D} (hp : D.pureL ds = true) {i : Nat} (h : i < ds.length) : pIx (.tup ds) (.int (i : Int)) = some (ds.getD i .non) := by
  show pureO (atI ds (i : Int)) = _
  rw [atI_nat h, List.getElem?_eq_getElem h]
  have := pureL_get hp (i := i) (d := ds[i]) (List.getElem?_eq_getElem h)
  simp [pureO, this, List.getD, h]
theorem picked_mem {n : Nat} {ds : List Yv.D} {p : List Nat} (h : IsT n p) (hl : ds.length = n) {y : Yv.D} (m : y ∈ picked n ds p) : y ∈ ds := by
  obtain ⟨x, mx, rfl⟩ := List.mem_map.mp m
  have := h.bk.ap_lt (x := x) (by simpa using mx)
  rw [List.getD_eq_getElem?_getD, List.getElem?_eq_getElem (by omega)]
  exact List.getElem_mem _
theorem rs16 (j : Nat) {d : Yv.D} {n : Nat} (n2 : n ≤ 24) {p q : List Nat} (h : IsT n p) {a11 : Option Yv.D} {m : Int} {ds : List Yv.D} (hl : ds.length = n) (hp : D.pureL ds = true) :
    r16 (j + 7) [some (d), some (.int (n : Int)), some (TN p), some (TN q), some (TN (idt n)), some (LR false (rds n p)), some (.int (ord (rds n p) : Nat)), some (.tup ds), some (.int (icnt p : Nat)), some (.int m), some (TN (tms n p (m % ((ord (rds n p) : Nat) : Int)).toNat)), a11, none, none, none, none, none] = .nx [some (d), some (.int (n : Int)), some (TN p), some (TN q), some (TN (idt n)), some (LR false (rds n p)), some (.int (ord (rds n p) : Nat)), some (.tup ds), some (.int (icnt p : Nat)), some (.int m), some (.tup (picked n ds p)), a11, none, none, none, none, none] := by
  have er := rg1_nat n (by omega)
  have eb := t__law_back (j + 6) h n2
  have hpp : D.pureL (picked n ds p) = true := pureL_iff.mpr fun y my => pureL_iff.mp hp y (picked_mem h hl my)
  unfold r16
  have fS : (TN (idt n)).frz = TN (idt n) := frz_of_pure (TP_pure _)
  have pS : (TN (idt n)).pure = true := TP_pure _
  generalize TN (idt n) = SS at *
  generalize (m % ((ord (rds n p) : Nat) : Int)).toNat = z at *
  generalize ((ord (rds n p) : Nat) : Int) = oo at *
  have lc := lc_map (mi := mItR1 (mL [(mVar 1)])) (t := .nm 14) (tt := mYes) (te := (mOp2 pIx (mVar 7) (mOp2 pIx (mCall (fm__law_back (j + 7)) (mL [(mVar 2)])) (mVar 14)))) (vs := [14]) (δ := [some (d), some (.int (n : Int)), some (TN p), some (TN q), some (SS), some (LR false (rds n p)), some (.int oo), some (.tup ds), some (.int (icnt p : Nat)), some (.int m), some (TN (tms n p z)), a11, none, none, none, none, none]) (δ1 := [some (d), some (.int (n : Int)), some (TN p), some (TN q), some (SS), some (LR false (rds n p)), some (.int oo), some (.tup ds), some (.int (icnt p : Nat)), some (.int m), some (TN (tms n p z)), a11, none, none, none, none, none]) (ds := nI (List.range n))
    (pickD ds p) (by simp [callM, somes, pureOut, finP, CR.nox, mSs, mSeq, mPass, mRetM, mRetN, mMove, mDo, mAsg, mIfS, mFor, mPar, allDt, mAndV, mOrV, mNotV, mBl, mTru, mAnd, mOr, mNot, mIf, mOp1, mOp2, mOpL, mL, mNil, mCons, mVar, mC, mCh, mVal, valA, mFz, mDt, mTup, mLst, mDct0, mCall, mPerm, permA, lentSlots_pure, back_pure, lentSlots_nil, lentSlots_dt, lentSlots_nm, lentAt_nil, lentAt_dt, lentAt_nm, mSl, mPart, mPart0, mItV, mItR1, mItR2, mItE, mMe, mMeEnd, mSto, resA, resAs, ofO, tgt, tgtL, D.frz, D.pure, D.pureL, D.frzL, mFail, mFailS, truD, List.replicate_succ, fLt, fLe, fGt, fGe, er, intsD_eq]) rfl (by rw [nI_len]; simp; omega) (fun y my => by
      obtain ⟨x, mx, rfl⟩ := nI_mem my
      have hx : x < n := by simpa using mx
      have e1 := pIx_T (l := bk p) (i := x) (by rw [h.bk.len]; exact hx)
      have e2 := pIx_tup hp (i := ap (bk p) x) (by rw [hl]; exact h.bk.ap_lt hx)
      have e3 : pickD ds p (.int (x : Int)) = ds.getD (ap (bk p) x) .non := rfl
      have hq : (ds.getD (ap (bk p) x) .non).pure = true := pureL_iff.mp hp _ (by rw [List.getD_eq_getElem?_getD, List.getElem?_eq_getElem (by rw [hl]; exact h.bk.ap_lt hx)]; exact List.getElem_mem _)
      rw [e3]
      generalize ds.getD (ap (bk p) x) .non = dd at *
      simp [callM, somes, pureOut, finP, CR.nox, mSs, mSeq, mPass, mRetM, mRetN, mMove, mDo, mAsg, mIfS, mFor, mPar, allDt, mAndV, mOrV, mNotV, mBl, mTru, mAnd, mOr, mNot, mIf, mOp1, mOp2, mOpL, mL, mNil, mCons, mVar, mC, mCh, mVal, valA, mFz, mDt, mTup, mLst, mDct0, mCall, mPerm, permA, lentSlots_pure, back_pure, lentSlots_nil, lentSlots_dt, lentSlots_nm, lentAt_nil, lentAt_dt, lentAt_nm, mSl, mPart, mPart0, mItV, mItR1, mItR2, mItE, mMe, mMeEnd, mSto, resA, resAs, ofO, tgt, tgtL, D.frz, D.pure, D.pureL, D.frzL, mFail, mFailS, truD, List.replicate_succ, fLt, fLe, fGt, fGe, lcStep, others, wipeD, backD, mYes, List.range_succ, eb, e1, e2, hp, nI_pure])
  have em : (nI (List.range n)).map (pickD ds p) = picked n ds p := by
    unfold nI picked; rw [List.map_map]; exact List.map_congr_left fun x _ => rfl
  rw [em] at lc
  generalize picked n ds p = pp at *
  have et : pTupOf [.lst true pp] = some (.tup pp) := by simp [pTupOf, itS, itL, hpp]
  simp only [mL] at lc
  simp [callM, somes, pureOut, finP, CR.nox, mSs, mSeq, mPass, mRetM, mRetN, mMove, mDo, mAsg, mIfS, mFor, mPar, allDt, mAndV, mOrV, mNotV, mBl, mTru, mAnd, mOr, mNot, mIf, mOp1, mOp2, mOpL, mL, mNil, mCons, mVar, mC, mCh, mVal, valA, mFz, mDt, mTup, mLst, mDct0, mCall, mPerm, permA, lentSlots_pure, back_pure, lentSlots_nil, lentSlots_dt, lentSlots_nm, lentAt_nil, lentAt_dt, lentAt_nm, mSl, mPart, mPart0, mItV, mItR1, mItR2, mItE, mMe, mMeEnd, mSto, resA, resAs, ofO, tgt, tgtL, D.frz, D.pure, D.pureL, D.frzL, mFail, mFailS, truD, List.replicate_succ, fLt, fLe, fGt, fGe, lc, et]
theorem dat_str (s : Str) (n m : Nat) (h1 : (PyData.str s).showable = true) (h2 : (PyData.str s).canLay0 = true) (h3 : (PyData.str s).shown.length ≤ m) (h4 : PyData.strOk (PyData.str s).shown = true) : Dat (.str s) (.str s) n m := ⟨rfl, h1, rfl, h2, Nat.zero_le _, h3, h4⟩
theorem _root_.Yv.Dat.up {d : Yv.D} {p : PyData} {n m n' m' : Nat} (h : Dat d p n m) (a : n ≤ n') (b : m ≤ m') : Dat d p n' m' := ⟨h.py, h.sh, h.hd, h.lay, Nat.le_trans h.dep a, Nat.le_trans h.len b, h.ok⟩
theorem five_dat (y : Yv.D) (h : y ∈ five) : ∃ p, Dat y p 1 10 := by
  simp only [five, List.mem_cons, List.not_mem_nil, or_false] at h
  rcases h with rfl | rfl | rfl | rfl | rfl
  · exact ⟨_, dat_str ("p" : Str) 1 10 (by decide +kernel) (by decide +kernel) (by decide +kernel) (by decide +kernel)⟩
  · exact ⟨_, (dat_non 1).up (by omega) (by omega)⟩
  · exact ⟨_, dat_int 1 (by decide)⟩
  · exact ⟨_, (dat_tup (datL_nil 0)).up (by omega) (by omega)⟩
  · exact ⟨_, dat_str ("q" : Str) 1 10 (by decide +kernel) (by decide +kernel) (by decide +kernel) (by decide +kernel)⟩
theorem datL_ex {n m : Nat} : ∀ (l : List Yv.D), (∀ y ∈ l, ∃ p, Dat y p n m) → ∃ ps, DatL l ps n (l.length * (m + 2))
  | [], _ => ⟨[], by simpa using datL_nil n⟩
  | a :: l, h => by
    obtain ⟨p, hp⟩ := h a (by simp)
    obtain ⟨ps, hps⟩ := datL_ex l fun y my => h y (by simp [my])
    refine ⟨p :: ps, ?_⟩
    have := datL_cons hp hps
    simp only [List.length_cons, Nat.add_mul, Nat.one_mul]
    rw [Nat.add_comm]; exact this
theorem moved_eq {n : Nat} {p : List Nat} (h : IsT n p) {ds es : List Yv.D} (hl : ds.length = n) (he : es.length = n) (g : ∀ j, j < n → es[ap p j]? = ds[j]?) : es = picked n ds p := by
  apply List.ext_getElem?
  intro x
  by_cases hx : x < n
  · have hb := h.bk.ap_lt hx
    have := g _ hb
    rw [h.ap_ap_bk hx] at this
    rw [this]
    unfold picked
    rw [List.getElem?_map, List.getElem?_range hx, Option.map_some, List.getD_eq_getElem?_getD, List.getElem?_eq_getElem (by omega)]; rfl
  · rw [List.getElem?_eq_none (by omega), List.getElem?_eq_none (by simp [picked]; omega)]
theorem rs17 (j : Nat) {d : Yv.D} {n : Nat} (n1 : 1 ≤ n) (n2 : n ≤ 24) {p q : List Nat} (h : IsT n p) {a11 : Option Yv.D} {m : Int} {ds : List Yv.D} (hl : ds.length = n) (h5 : ∀ y ∈ ds, y ∈ five) :
    r17 (j + 7) [some (d), some (.int (n : Int)), some (TN p), some (TN q), some (TN (idt n)), some (LR false (rds n p)), some (.int (ord (rds n p) : Nat)), some (.tup ds), some (.int (icnt p : Nat)), some (.int m), some (.tup (picked n ds p)), a11, none, none, none, none, none] = .nx [some (d), some (.int (n : Int)), some (TN p), some (TN q), some (TN (idt n)), some (LR false (rds n p)), some (.int (ord (rds n p) : Nat)), some (.tup ds), some (.int (icnt p : Nat)), some (.int m), some (.tup (picked n ds p)), a11, none, none, none, none, none] := by
  have hp : D.pureL ds = true := pureL_iff.mpr fun y my => pureL_iff.mp five_pure y (h5 y my)
  obtain ⟨es, e1, e2, e3, e4⟩ := t_moved (j + 1) h n1 n2 hl hp
  have := moved_eq h hl e2 e4
  subst this
  obtain ⟨ps, dl⟩ := datL_ex (picked n ds p) fun y my => five_dat y (h5 y (picked_mem h hl my))
  have dt := dat_tup dl
  have s1 := dt.repr (by omega) (by rw [e2]; omega)
  have s2 := dt.same
  unfold r17
  generalize (PyData.tuple ps).shown = sh at *
  have fS : (TN (idt n)).frz = TN (idt n) := frz_of_pure (TP_pure _)
  have pS : (TN (idt n)).pure = true := TP_pure _
  generalize TN (idt n) = SS at *
  generalize (m % ((ord (rds n p) : Nat) : Int)).toNat = z at *
  generalize ((ord (rds n p) : Nat) : Int) = oo at *
  generalize picked n ds p = pp at *
  simp [callM, somes, pureOut, finP, CR.nox, mSs, mSeq, mPass, mRetM, mRetN, mMove, mDo, mAsg, mIfS, mFor, mPar, allDt, mAndV, mOrV, mNotV, mBl, mTru, mAnd, mOr, mNot, mIf, mOp1, mOp2, mOpL, mL, mNil, mCons, mVar, mC, mCh, mVal, valA, mFz, mDt, mTup, mLst, mDct0, mCall, mPerm, permA, lentSlots_pure, back_pure, lentSlots_nil, lentSlots_dt, lentSlots_nm, lentAt_nil, lentAt_dt, lentAt_nm, mSl, mPart, mPart0, mItV, mItR1, mItR2, mItE, mMe, mMeEnd, mSto, resA, resAs, ofO, tgt, tgtL, D.frz, D.pure, D.pureL, D.frzL, mFail, mFailS, truD, List.replicate_succ, fLt, fLe, fGt, fGe, e1, s1, s2, nI_pure, hp]
end Lw

set_option Elab.async false
set_option linter.all false
set_option maxRecDepth 100000
set_option maxHeartbeats 4000000
namespace Lw
open PySem L2 Yv Mt

theorem val_T {l : List Nat} (h : l.length ≤ 4000) : Val (TN l) := val_tup (nI_pure l) (noS_nI l) (by rw [nI_len]; exact h)
def stat (n : Nat) (p : List Nat) : List Yv.D := [TN p, LS false p, .tup ((nI p).take (p.length - 1)), .tup (nI p ++ [.int (n : Int)]), .tup (nI p).reverse, TN (List.replicate n 0), .non, .int 7, .tup (p.map fun x => .bl (decide (x = 1)))]
theorem stat_val {n : Nat} {p : List Nat} (hl : p.length ≤ 24) (hn : n ≤ 24) : ∀ y ∈ stat n p, Val y := by
  intro y m
  simp only [stat, List.mem_cons, List.not_mem_nil, or_false] at m
  rcases m with rfl | rfl | rfl | rfl | rfl | rfl | rfl | rfl | rfl
  · exact val_T (by omega)
  · exact val_of (by simp [D.pure, nI_pure]) rfl rfl
  · exact val_tup (pureL_take _ (nI_pure p)) (noS_take _) (by simp [nI_len]; omega)
  · refine val_tup (by rw [pureL_append, nI_pure]; rfl) (fun d m => ?_) (by simp [nI_len]; omega)
    rcases List.mem_append.mp m with m | m
    · exact noS_nI p d m
    · rw [List.mem_singleton.mp m]; rfl
  · exact val_tup (pureL_reverse (nI_pure p)) (fun d m => noS_nI p d (List.mem_reverse.mp m)) (by simp [nI_len]; omega)
  · exact val_T (by simp; omega)
  · exact val_of rfl rfl rfl
  · exact val_of rfl rfl rfl
  · exact val_tup (pureL_map _ _ fun _ _ => rfl) (fun d m => by obtain ⟨x, _, rfl⟩ := List.mem_map.mp m; rfl) (by simp; omega)
theorem rep_T {n : Nat} (h1 : 1 ≤ n) (h2 : n ≤ 24) : pMul (.tup [.int 0]) (.int (n : Int)) = some (TN (List.replicate n 0)) := by
  have c : (D.pureL [Yv.D.int 0] && decide ((1 : Int) ≤ (n : Int)) && decide ((n : Int) ≤ 1000) && decide ([Yv.D.int 0].length ≤ 1000) && !([Yv.D.int 0].isEmpty)) = true := by
    simp only [Bool.and_eq_true, decide_eq_true_eq]; refine ⟨⟨⟨⟨rfl, by omega⟩, by omega⟩, by decide⟩, rfl⟩
  show (if (D.pureL [Yv.D.int 0] && decide ((1 : Int) ≤ (n : Int)) && decide ((n : Int) ≤ 1000) && decide ([Yv.D.int 0].length ≤ 1000) && !([Yv.D.int 0].isEmpty)) = true then some (Yv.D.tup (List.replicate (n : Int).toNat [Yv.D.int 0]).flatten) else none) = _
  rw [if_pos c, Int.toNat_natCast]
  have : ∀ k : Nat, (List.replicate k [Yv.D.int 0]).flatten = nI (List.replicate k 0) := fun k => by
    induction k with
    | zero => rfl
    | succ k ih => rw [List.replicate_succ, List.flatten_cons, ih]; rfl
  rw [this]
def isOne (d : Yv.D) : Yv.D := .bl (decide (unI d = 1))
theorem addL {o o' : Bool} {a b : List Yv.D} (ha : D.pureL a = true) (hb : D.pureL b = true) (h : a.length + b.length ≤ 1000000) : pAdd (.lst o a) (.lst o' b) = some (.lst true (a ++ b)) := by
  have e : Yv.sizeOk (a.length + b.length) = true := by simp only [Yv.sizeOk, decide_eq_true_eq]; exact h
  simp only [pAdd, ha, hb, e, Bool.and_self, if_true]
theorem rs18 (j : Nat) {c : Nat} {d : Yv.D} (h : Pot c d) (hc : c ≤ 700000000) {n : Nat} (n1 : 1 ≤ n) (n2 : n ≤ 24) {p : List Nat} (hp : IsT n p) {x3 x4 x5 x6 x7 x8 x9 x10 x11 : Option Yv.D} (va : vsOk [x11] [0] = true) :
    ∃ (vs : List Yv.D) (d' : Yv.D), r18 (j + 7) [some d, some (.int (n : Int)), some (TN p), x3, x4, x5, x6, x7, x8, x9, x10, x11, none, none, none, none, none] = .nx [some d', some (.int (n : Int)), some (TN p), x3, x4, x5, x6, x7, x8, x9, x10, x11, some (.lst true vs), none, none, none, none] ∧ (∀ y ∈ vs, Val y) ∧ vs.length ≤ 100 ∧ Pot (c + 15) d' := by
  have np := h.np
  have hl : p.length ≤ 24 := by rw [hp.len]; exact n2
  have h0 : p ≠ [] := fun e => by have := hp.len; rw [e] at this; simp at this; omega
  have er := rg1_nat 5 (by omega)
  obtain ⟨ws, δ', g1, g2⟩ := lc_inv (mi := mItR1 (mL [(mC (.int 5))])) (t := .nm 11) (tt := mYes) (te := mCall (fm__law_bent (j + 7)) (mL [(mVar 0), (mVar 2)])) (vs := [11]) (δ := [some d, some (.int (n : Int)), some (TN p), x3, x4, x5, x6, x7, x8, x9, x10, x11, none, none, none, none, none]) (δ1 := [some d, some (.int (n : Int)), some (TN p), x3, x4, x5, x6, x7, x8, x9, x10, x11, none, none, none, none, none]) (ds := nI (List.range 5))
    (fun i acc δ => ∃ d', δ = [some d', some (.int (n : Int)), some (TN p), x3, x4, x5, x6, x7, x8, x9, x10, x11, none, none, none, none, none] ∧ acc.length = i ∧ (∀ y ∈ acc, Val y) ∧ Pot (c + 3 * i) d') (by rw [← intsD_eq]; simp [callM, somes, pureOut, finP, CR.nox, mSs, mSeq, mPass, mRetM, mRetN, mMove, mDo, mAsg, mIfS, mFor, mPar, allDt, mAndV, mOrV, mNotV, mBl, mTru, mAnd, mOr, mNot, mIf, mOp1, mOp2, mOpL, mL, mNil, mCons, mVar, mC, mCh, mVal, valA, mFz, mDt, mTup, mLst, mDct0, mCall, mPerm, permA, lentSlots_pure, back_pure, lentSlots_nil, lentSlots_dt, lentSlots_nm, lentAt_nil, lentAt_dt, lentAt_nm, mSl, mPart, mPart0, mItV, mItR1, mItR2, mItE, mMe, mMeEnd, mSto, resA, resAs, ofO, tgt, tgtL, D.frz, D.pure, D.pureL, D.frzL, mFail, mFailS, truD, List.replicate_succ, fLt, fLe, fGt, fGe, show rg1 [.int 5] = some 5 from rfl]) va (by rw [nI_len]; simp) ⟨d, rfl, rfl, by simp, h⟩ (by
      rintro i x acc δ w ⟨d', rfl, hl', hm, P'⟩
      obtain ⟨z, mz, rfl⟩ := nI_mem (List.mem_of_getElem? w)
      have hi : i < 5 := by have := (List.getElem?_eq_some_iff.mp w).1; rw [nI_len] at this; simpa using this
      obtain ⟨y, d2, e, vy, P2⟩ := bent_tup (j + 3) P' (by omega) h0 hl (fun x m => by have := hp.lt x m; omega)
      have np' := P'.np
      have yp := vy.pure
      refine .inl ⟨y, [some d2, some (.int (n : Int)), some (TN p), x3, x4, x5, x6, x7, x8, x9, x10, x11, none, none, none, none, none], ?_, d2, rfl, by simp [hl'], fun y' my => ?_, by rw [Nat.mul_add, ← Nat.add_assoc]; exact P2⟩
      · simp [callM, somes, pureOut, finP, CR.nox, mSs, mSeq, mPass, mRetM, mRetN, mMove, mDo, mAsg, mIfS, mFor, mPar, allDt, mAndV, mOrV, mNotV, mBl, mTru, mAnd, mOr, mNot, mIf, mOp1, mOp2, mOpL, mL, mNil, mCons, mVar, mC, mCh, mVal, valA, mFz, mDt, mTup, mLst, mDct0, mCall, mPerm, permA, lentSlots_pure, back_pure, lentSlots_nil, lentSlots_dt, lentSlots_nm, lentAt_nil, lentAt_dt, lentAt_nm, mSl, mPart, mPart0, mItV, mItR1, mItR2, mItE, mMe, mMeEnd, mSto, resA, resAs, ofO, tgt, tgtL, D.frz, D.pure, D.pureL, D.frzL, mFail, mFailS, truD, List.replicate_succ, fLt, fLe, fGt, fGe, lcStep, others, wipeD, backD, mYes, List.range_succ, e, np', back, nI_pure]
      · rcases List.mem_append.mp my with my | my
        · exact hm y' my
        · rw [List.mem_singleton.mp my]; exact vy)
  rw [nI_len, List.length_range] at g2
  obtain ⟨d', rfl, hw, hm, P'⟩ := g2
  have lc := lc_map (mi := mItV (mVar 2)) (t := .nm 14) (tt := mYes) (te := mOp2 pEq (mVar 14) (mC (.int 1))) (vs := [14]) (δ := [some d, some (.int (n : Int)), some (TN p), x3, x4, x5, x6, x7, x8, x9, x10, x11, none, none, none, none, none]) (δ1 := [some d, some (.int (n : Int)), some (TN p), x3, x4, x5, x6, x7, x8, x9, x10, x11, none, none, none, none, none]) (ds := nI p)
    isOne (by simp [callM, somes, pureOut, finP, CR.nox, mSs, mSeq, mPass, mRetM, mRetN, mMove, mDo, mAsg, mIfS, mFor, mPar, allDt, mAndV, mOrV, mNotV, mBl, mTru, mAnd, mOr, mNot, mIf, mOp1, mOp2, mOpL, mL, mNil, mCons, mVar, mC, mCh, mVal, valA, mFz, mDt, mTup, mLst, mDct0, mCall, mPerm, permA, lentSlots_pure, back_pure, lentSlots_nil, lentSlots_dt, lentSlots_nm, lentAt_nil, lentAt_dt, lentAt_nm, mSl, mPart, mPart0, mItV, mItR1, mItR2, mItE, mMe, mMeEnd, mSto, resA, resAs, ofO, tgt, tgtL, D.frz, D.pure, D.pureL, D.frzL, mFail, mFailS, truD, List.replicate_succ, fLt, fLe, fGt, fGe, nI_frz, nI_pure, itF]) rfl (by rw [nI_len]; omega) (fun y my => by
      obtain ⟨x, mx, rfl⟩ := nI_mem my
      have e : pEq (.int (x : Int)) (.int 1) = some (.bl (decide (x = 1))) := by rw [pEq_I]; congr 2; simp; omega
      have e2 : isOne (.int (x : Int)) = .bl (decide (x = 1)) := rfl
      rw [e2]
      generalize decide (x = 1) = b at *
      simp [callM, somes, pureOut, finP, CR.nox, mSs, mSeq, mPass, mRetM, mRetN, mMove, mDo, mAsg, mIfS, mFor, mPar, allDt, mAndV, mOrV, mNotV, mBl, mTru, mAnd, mOr, mNot, mIf, mOp1, mOp2, mOpL, mL, mNil, mCons, mVar, mC, mCh, mVal, valA, mFz, mDt, mTup, mLst, mDct0, mCall, mPerm, permA, lentSlots_pure, back_pure, lentSlots_nil, lentSlots_dt, lentSlots_nm, lentAt_nil, lentAt_dt, lentAt_nm, mSl, mPart, mPart0, mItV, mItR1, mItR2, mItE, mMe, mMeEnd, mSto, resA, resAs, ofO, tgt, tgtL, D.frz, D.pure, D.pureL, D.frzL, mFail, mFailS, truD, List.replicate_succ, fLt, fLe, fGt, fGe, lcStep, others, wipeD, backD, mYes, List.range_succ, e, nI_pure])
  have em : (nI p).map isOne = p.map fun x => .bl (decide (x = 1)) := by unfold nI; rw [List.map_map]; exact List.map_congr_left fun x _ => rfl
  rw [em] at lc
  have pb : D.pureL (p.map fun x => Yv.D.bl (decide (x = 1))) = true := pureL_map _ _ fun _ _ => rfl
  have et : pTupOf [.lst true (p.map fun x => Yv.D.bl (decide (x = 1)))] = some (.tup (p.map fun x => Yv.D.bl (decide (x = 1)))) := by simp [pTupOf, itS, itL, pb]
  have ls : pLstOf [TN p] = some (LS true p) := by simp [pLstOf, itS, itL, itT, nI_pure]
  have s1 := slT (nI_pure p) none (some (-1))
  rw [cut_last, nI_len] at s1
  have a1 := addT (a := nI p) (b := [.int (n : Int)]) (nI_pure p) rfl (by rw [nI_len]; simp; omega)
  have rv : pRev (TN p) = some (.tup (nI p).reverse) := by simp only [pRev, nI_pure, if_true]
  have er0 := rep_T n1 n2
  have sp : D.pureL (stat n p) = true := pureL_iff.mpr fun y my => (stat_val hl n2 y my).pure
  have wp : D.pureL ws = true := pureL_iff.mpr fun y my => (hm y my).pure
  have ea := addL (o := true) (o' := true) sp wp (by rw [hw]; simp [stat])
  have sv := stat_val hl n2 (p := p)
  have slen : (stat n p).length = 9 := rfl
  refine ⟨stat n p ++ ws, d', ?_, fun y my => (List.mem_append.mp my).elim (sv y) (hm y), by simp [slen, hw], P'⟩
  have f1 := frzL_of_pure (pureL_take (p.length - 1) (nI_pure p))
  have f2 : D.frzL (nI p ++ [.int (n : Int)]) = nI p ++ [.int (n : Int)] := frzL_of_pure (by rw [pureL_append, nI_pure]; rfl)
  have f3 := frzL_of_pure (pureL_reverse (nI_pure p))
  have f4 := frzL_of_pure pb
  have en : pNeg (.int 1) = some (.int (-1)) := rfl
  unfold stat at *
  generalize (p.map fun x => Yv.D.bl (decide (x = 1))) = t1 at *
  generalize (nI p).take (p.length - 1) = t2 at *
  generalize (nI p).reverse = t3 at *
  generalize (nI p ++ [Yv.D.int (n : Int)]) = t4 at *
  have f5 := nI_frz (List.replicate n 0)
  generalize nI (List.replicate n 0) = t5 at *
  simp only [mL] at lc g1
  unfold r18
  generalize (-1 : Int) = k1 at *
  simp [callM, somes, pureOut, finP, CR.nox, mSs, mSeq, mPass, mRetM, mRetN, mMove, mDo, mAsg, mIfS, mFor, mPar, allDt, mAndV, mOrV, mNotV, mBl, mTru, mAnd, mOr, mNot, mIf, mOp1, mOp2, mOpL, mL, mNil, mCons, mVar, mC, mCh, mVal, valA, mFz, mDt, mTup, mLst, mDct0, mCall, mPerm, permA, lentSlots_pure, back_pure, lentSlots_nil, lentSlots_dt, lentSlots_nm, lentAt_nil, lentAt_dt, lentAt_nm, mSl, mPart, mPart0, mItV, mItR1, mItR2, mItE, mMe, mMeEnd, mSto, resA, resAs, ofO, tgt, tgtL, D.frz, D.pure, D.pureL, D.frzL, mFail, mFailS, truD, List.replicate_succ, fLt, fLe, fGt, fGe, en, lc, ls, s1, a1, rv, er0, et, f1, f2, f3, f4, f5, nI_frz, g1, ea, Yv.sizeOk]
end Lw

set_option Elab.async false
set_option linter.all false
set_option maxRecDepth 100000
set_option maxHeartbeats 4000000
namespace Lw
open PySem L2 Yv Mt

/-! is_turn says what the law says -/
theorem ddI_len_le : ∀ (l : List Int), (ddI l).length ≤ l.length
  | [] => Nat.le_refl _
  | a :: l => by
    have := ddI_len_le l
    unfold ddI; split <;> simp only [List.length_cons] <;> omega
theorem ddI_eq_nodup : ∀ {l : List Int}, (ddI l).length = l.length → l.Nodup
  | [], _ => List.nodup_nil
  | a :: l, h => by
    have := ddI_len_le l
    unfold ddI at h
    split at h
    · simp only [List.length_cons] at h; omega
    · rename_i c
      simp only [List.length_cons] at h
      exact List.nodup_cons.mpr ⟨c, ddI_eq_nodup (by omega)⟩
abbrev rgI (n : Nat) : List Int := (List.range n).map fun (x : Nat) => (x : Int)
theorem rgI_sorted (n : Nat) : (rgI n).Pairwise (· ≤ ·) := by
  unfold rgI
  rw [List.pairwise_map]
  exact List.Pairwise.imp (fun h => by omega) (List.pairwise_lt_range (n := n))
theorem rgI_nodup (n : Nat) : (rgI n).Nodup := by
  unfold rgI
  refine List.Pairwise.map _ (fun a b h e => h (by omega)) (List.nodup_range (n := n))
theorem nodup_perm {n : Nat} {ns : List Int} (hd : ns.Nodup) (hl : ns.length = n) (hr : ∀ x ∈ ns, 0 ≤ x ∧ x < n) : ns.Perm (rgI n) := by
  have hp : IsT n (ns.map Int.toNat) := by
    refine ⟨by simp [hl], ?_, fun x m => ?_⟩
    · have : ∀ {l : List Int}, l.Nodup → (∀ x ∈ l, 0 ≤ x) → (l.map Int.toNat).Nodup := fun {l} => by
        induction l with
        | nil => simp
        | cons a l ih =>
          intro q r
          rw [List.nodup_cons] at q
          rw [List.map_cons, List.nodup_cons]
          refine ⟨fun m => ?_, ih q.2 fun x m => r x (by simp [m])⟩
          obtain ⟨b, mb, e⟩ := List.mem_map.mp m
          have h1 := r a (by simp)
          have h2 := r b (by simp [mb])
          have : b = a := by omega
          exact q.1 (this ▸ mb)
      exact this hd fun x m => (hr x m).1
    · obtain ⟨y, my, rfl⟩ := List.mem_map.mp m
      have := hr y my; omega
  have := (hp.perm).map fun (x : Nat) => (x : Int)
  rw [List.map_map] at this
  have e : ns.map ((fun (x : Nat) => (x : Int)) ∘ Int.toNat) = ns := by
    conv => rhs; rw [← List.map_id ns]
    apply List.map_congr_left; intro x m; simp only [Function.comp, id]; exact Int.toNat_of_nonneg (hr x m).1
  rw [e] at this; exact this
theorem turn_srt {n : Nat} (ns : List Int) : turnB n (ns.map .int) = decide (srtI ns = rgI n) := by
  have e0 : intsOf (ns.map Yv.D.int) = some ns := intsOf_map ns
  unfold turnB
  rw [e0, List.length_map]
  rw [Bool.eq_iff_iff]
  simp only [Bool.and_eq_true, List.all_eq_true, decide_eq_true_eq]
  constructor
  · rintro ⟨h1, h2, h3⟩
    have hd : ns.Nodup := ddI_eq_nodup (by omega)
    have hr : ∀ x ∈ ns, 0 ≤ x ∧ x < n := fun x m => by
      have := h1 (.int x) (List.mem_map.mpr ⟨x, m, rfl⟩)
      simp only [inR, Bool.and_eq_true, decide_eq_true_eq] at this
      omega
    exact sorted_unique ((srtI_perm ns).trans (nodup_perm hd (by omega) hr)) (srtI_sorted ns) (rgI_sorted n)
  · intro h
    have pm : ns.Perm (rgI n) := (h ▸ (srtI_perm ns).symm)
    have hl := pm.length_eq
    simp only [rgI, List.length_map, List.length_range] at hl
    have hd : ns.Nodup := pm.nodup_iff.mpr (rgI_nodup n)
    refine ⟨fun d m => ?_, by omega, by rw [ddI_nodup hd]; omega⟩
    obtain ⟨x, mx, rfl⟩ := List.mem_map.mp m
    obtain ⟨y, my, rfl⟩ := List.mem_map.mp (pm.mem_iff.mp mx)
    have := List.mem_range.mp my
    simp only [inR, Bool.and_eq_true, decide_eq_true_eq]; omega
theorem ints_ex : ∀ {ds : List Yv.D}, ds.all isI = true → ∃ ns : List Int, ds = ns.map .int
  | [], _ => ⟨[], rfl⟩
  | d :: ds, h => by
    simp only [List.all_cons, Bool.and_eq_true] at h
    obtain ⟨ns, rfl⟩ := ints_ex h.2
    cases d with
    | int i => exact ⟨i :: ns, rfl⟩
    | _ => simp [isI] at h
theorem shaped_ints : ∀ (ns : List Int), D.pyL (ns.map .int) = some (ns.map .int) ∧ PyData.canLayAll0 (ns.map .int) = true ∧ PyData.depthAll (ns.map .int) = 0
  | [] => ⟨rfl, rfl, rfl⟩
  | n :: ns => by
    obtain ⟨h1, h2, h3⟩ := shaped_ints ns
    exact ⟨by simp only [List.map_cons, D.pyL, D.py, h1], by simp only [List.map_cons, PyData.canLayAll0, PyData.canLay0, h2]; rfl, by simp only [List.map_cons, PyData.depthAll, PyData.depth, h3]; rfl⟩
theorem eqvAll_int : ∀ (a b : List Int), PyData.eqvAll (a.map .int) (b.map .int) = decide (a = b)
  | [], [] => by simp [PyData.eqvAll]
  | [], y :: b => by simp [PyData.eqvAll]
  | x :: a, [] => by simp [PyData.eqvAll]
  | x :: a, y :: b => by
    simp only [List.map_cons, PyData.eqvAll, eqvAll_int a b, PyData.eqv, List.cons.injEq, Bool.decide_and]
    by_cases e : x = y <;> simp [e]
theorem pEq_ints {o o' : Bool} (a b : List Int) : pEq (.lst o (a.map .int)) (.lst o' (b.map .int)) = some (.bl (decide (a = b))) := by
  obtain ⟨a1, a2, a3⟩ := shaped_ints a
  obtain ⟨b1, b2, b3⟩ := shaped_ints b
  unfold pEq peq
  have ea : (Yv.D.lst o (a.map .int)).py = some (.list (a.map .int)) := by simp only [D.py, a1, Option.map_some]
  have eb : (Yv.D.lst o' (b.map .int)).py = some (.list (b.map .int)) := by simp only [D.py, b1, Option.map_some]
  have sa : SeqAt.shaped (.list (a.map .int)) = true := by unfold SeqAt.shaped; simp only [PyData.canLay0, PyData.depth, a2, a3]; decide
  have sb : SeqAt.shaped (.list (b.map .int)) = true := by unfold SeqAt.shaped; simp only [PyData.canLay0, PyData.depth, b2, b3]; decide
  rw [ea, eb]
  simp only [sa, sb, Bool.and_self, if_true, PyData.eqv, eqvAll_int, Option.map_some]
/-- what is due of a value -/
def dueB (n : Nat) (y : Yv.D) : Bool := match y with
  | .tup ds => turnB n ds
  | _ => false
def isI1 (d : Yv.D) : Yv.D := .bl (isI d)
theorem due_ev (j : Nat) {d : Yv.D} {n : Nat} (n2 : n ≤ 24) {p : List Nat} {x3 x5 x6 x7 x8 x9 x10 x11 x12 : Option Yv.D} {y : Yv.D} (vy : Val y) :
    (mAndV (mOpL pIsi (mL [(mVar 13), (mC (.ty "tuple"))])) (mAndV (mOpL (lB fAll) (mL [(mLc (mItV (mVar 13)) (.nm 14) mYes (mCall (fm__law_is_int (j + 7)) (mL [(mVar 14)])) [14])])) (mOp2 pEq (mOpL pSort (mL [(mVar 13)])) (mOpL pLstOf (mL [(mVar 4)])))))
      [some d, some (.int (n : Int)), some (TN p), x3, some (TN (idt n)), x5, x6, x7, x8, x9, x10, x11, x12, some y, none, none, none] = .ok (.dt (.bl (dueB n y))) [some d, some (.int (n : Int)), some (TN p), x3, some (TN (idt n)), x5, x6, x7, x8, x9, x10, x11, x12, some y, none, none, none] := by
  have yp := vy.pure
  have fy := frz_of_pure yp
  by_cases ht : isTp y = true
  · cases y with
    | tup ds =>
      obtain ⟨hn, hl⟩ := vy.items ds rfl
      have dp : D.pureL ds = true := yp
      have fz := frzL_of_pure dp
      have lc := lc_map (mi := mItV (mVar 13)) (t := .nm 14) (tt := mYes) (te := mCall (fm__law_is_int (j + 7)) (mL [(mVar 14)])) (vs := [14]) (δ := [some d, some (.int (n : Int)), some (TN p), x3, some (TN (idt n)), x5, x6, x7, x8, x9, x10, x11, x12, some (.tup ds), none, none, none]) (δ1 := [some d, some (.int (n : Int)), some (TN p), x3, some (TN (idt n)), x5, x6, x7, x8, x9, x10, x11, x12, some (.tup ds), none, none, none]) (ds := ds)
        isI1 (by generalize TN (idt n) = SS at *; simp [callM, somes, pureOut, finP, CR.nox, mSs, mSeq, mPass, mRetM, mRetN, mMove, mDo, mAsg, mIfS, mFor, mPar, allDt, mAndV, mOrV, mNotV, mBl, mTru, mAnd, mOr, mNot, mIf, mOp1, mOp2, mOpL, mL, mNil, mCons, mVar, mC, mCh, mVal, valA, mFz, mDt, mTup, mLst, mDct0, mCall, mPerm, permA, lentSlots_pure, back_pure, lentSlots_nil, lentSlots_dt, lentSlots_nm, lentAt_nil, lentAt_dt, lentAt_nm, mSl, mPart, mPart0, mItV, mItR1, mItR2, mItE, mMe, mMeEnd, mSto, resA, resAs, ofO, tgt, tgtL, D.frz, D.pure, D.pureL, D.frzL, mFail, mFailS, truD, List.replicate_succ, fLt, fLe, fGt, fGe, itF, dp, fz]) rfl (by omega) (fun z m => by
          have e := t__law_is_int (j + 6) z (hn z m)
          have hz := pureL_iff.mp dp z m
          generalize TN (idt n) = SS at *
          simp [callM, somes, pureOut, finP, CR.nox, mSs, mSeq, mPass, mRetM, mRetN, mMove, mDo, mAsg, mIfS, mFor, mPar, allDt, mAndV, mOrV, mNotV, mBl, mTru, mAnd, mOr, mNot, mIf, mOp1, mOp2, mOpL, mL, mNil, mCons, mVar, mC, mCh, mVal, valA, mFz, mDt, mTup, mLst, mDct0, mCall, mPerm, permA, lentSlots_pure, back_pure, lentSlots_nil, lentSlots_dt, lentSlots_nm, lentAt_nil, lentAt_dt, lentAt_nm, mSl, mPart, mPart0, mItV, mItR1, mItR2, mItE, mMe, mMeEnd, mSto, resA, resAs, ofO, tgt, tgtL, D.frz, D.pure, D.pureL, D.frzL, mFail, mFailS, truD, List.replicate_succ, fLt, fLe, fGt, fGe, lcStep, others, wipeD, backD, mYes, List.range_succ, e, hz, isI1])
      have ea := allB ds isI
      have em : ds.map isI1 = ds.map fun d => .bl (isI d) := rfl
      rw [em] at lc
      have hi := isi_tuple ds
      simp only [mL] at lc
      by_cases ai : ds.all isI = true
      · rw [ai] at ea
        obtain ⟨ns, rfl⟩ := ints_ex ai
        have es : pSort [.tup (ns.map .int)] = some (.lst true ((srtI ns).map .int)) := by
          simp only [pSort, itS, itL, itT, dp, if_true, Option.or, intsOf_map, Option.map_some]
        have el : pLstOf [TN (idt n)] = some (LS true (idt n)) := by simp [pLstOf, itS, itL, itT, nI_pure]
        have ee := pEq_ints (o := true) (o' := true) (srtI ns) (rgI n)
        have er : Yv.D.lst true ((rgI n).map .int) = LS true (idt n) := by simp [idt, nI, rgI]
        rw [er, ← turn_srt] at ee
        have ed : dueB n (.tup (ns.map .int)) = turnB n (ns.map .int) := rfl
        rw [ed]
        generalize turnB n (ns.map .int) = tb at *
        generalize LS true (idt n) = LL at *
        generalize TN (idt n) = SS at *
        generalize (ns.map Yv.D.int).map (fun d => Yv.D.bl (isI d)) = zz at *
        generalize (srtI ns).map Yv.D.int = ss at *
        generalize ns.map Yv.D.int = dd at *
        simp [callM, somes, pureOut, finP, CR.nox, mSs, mSeq, mPass, mRetM, mRetN, mMove, mDo, mAsg, mIfS, mFor, mPar, allDt, mAndV, mOrV, mNotV, mBl, mTru, mAnd, mOr, mNot, mIf, mOp1, mOp2, mOpL, mL, mNil, mCons, mVar, mC, mCh, mVal, valA, mFz, mDt, mTup, mLst, mDct0, mCall, mPerm, permA, lentSlots_pure, back_pure, lentSlots_nil, lentSlots_dt, lentSlots_nm, lentAt_nil, lentAt_dt, lentAt_nm, mSl, mPart, mPart0, mItV, mItR1, mItR2, mItE, mMe, mMeEnd, mSto, resA, resAs, ofO, tgt, tgtL, D.frz, D.pure, D.pureL, D.frzL, mFail, mFailS, truD, List.replicate_succ, fLt, fLe, fGt, fGe, hi, lc, ea, es, el, ee, dp, fz]
      · rw [Bool.not_eq_true] at ai
        rw [ai] at ea
        have et : turnB n ds = false := by
          unfold turnB
          have : ds.all (inR 0 ((n : Int) - 1)) = false := by
            rw [← Bool.not_eq_true]; intro q
            rw [← Bool.not_eq_true] at ai; apply ai
            rw [List.all_eq_true] at q ⊢
            intro z m; have := q z m
            cases z <;> first | rfl | simp [inR] at this
          rw [this, Bool.false_and]
        have ed : dueB n (.tup ds) = false := et
        rw [ed]
        generalize TN (idt n) = SS at *
        generalize ds.map (fun d => Yv.D.bl (isI d)) = zz at *
        simp [callM, somes, pureOut, finP, CR.nox, mSs, mSeq, mPass, mRetM, mRetN, mMove, mDo, mAsg, mIfS, mFor, mPar, allDt, mAndV, mOrV, mNotV, mBl, mTru, mAnd, mOr, mNot, mIf, mOp1, mOp2, mOpL, mL, mNil, mCons, mVar, mC, mCh, mVal, valA, mFz, mDt, mTup, mLst, mDct0, mCall, mPerm, permA, lentSlots_pure, back_pure, lentSlots_nil, lentSlots_dt, lentSlots_nm, lentAt_nil, lentAt_dt, lentAt_nm, mSl, mPart, mPart0, mItV, mItR1, mItR2, mItE, mMe, mMeEnd, mSto, resA, resAs, ofO, tgt, tgtL, D.frz, D.pure, D.pureL, D.frzL, mFail, mFailS, truD, List.replicate_succ, fLt, fLe, fGt, fGe, hi, lc, ea, dp, fz]
    | _ => simp [isTp] at ht
  · rw [Bool.not_eq_true] at ht
    have hi := isi_no vy.noS ht
    have ed : dueB n y = false := by cases y <;> first | rfl | simp [isTp] at ht
    rw [ed]
    generalize TN (idt n) = SS at *
    simp [callM, somes, pureOut, finP, CR.nox, mSs, mSeq, mPass, mRetM, mRetN, mMove, mDo, mAsg, mIfS, mFor, mPar, allDt, mAndV, mOrV, mNotV, mBl, mTru, mAnd, mOr, mNot, mIf, mOp1, mOp2, mOpL, mL, mNil, mCons, mVar, mC, mCh, mVal, valA, mFz, mDt, mTup, mLst, mDct0, mCall, mPerm, permA, lentSlots_pure, back_pure, lentSlots_nil, lentSlots_dt, lentSlots_nm, lentAt_nil, lentAt_dt, lentAt_nm, mSl, mPart, mPart0, mItV, mItR1, mItR2, mItE, mMe, mMeEnd, mSto, resA, resAs, ofO, tgt, tgtL, D.frz, D.pure, D.pureL, D.frzL, mFail, mFailS, truD, List.replicate_succ, fLt, fLe, fGt, fGe, hi]
theorem is_turn_due (k : Nat) {n : Nat} (n1 : 1 ≤ n) (n2 : n ≤ 24) {y : Yv.D} (vy : Val y) : fm_is_turn (k + 5) [.int (n : Int), y] = .ok (.bl (dueB n y)) [.int (n : Int), y] := by
  by_cases ht : isTp y = true
  · cases y with
    | tup ds =>
      obtain ⟨hn, hl⟩ := vy.items ds rfl
      exact t_is_turn k n (by omega) (by omega) ds hn vy.pure hl
    | _ => simp [isTp] at ht
  · rw [Bool.not_eq_true] at ht
    have ed : dueB n y = false := by cases y <;> first | rfl | simp [isTp] at ht
    rw [ed]
    exact t_is_turn_no k n (by omega) (by omega) y vy.noS ht vy.pure
theorem rs19 (j : Nat) {d : Yv.D} {n : Nat} (n1 : 1 ≤ n) (n2 : n ≤ 24) {p : List Nat} {x3 x5 x6 x7 x8 x9 x10 x11 : Option Yv.D} {vs : List Yv.D} (hv : ∀ y ∈ vs, Val y) :
    ∃ δ' : Env', r19 (j + 7) [some d, some (.int (n : Int)), some (TN p), x3, some (TN (idt n)), x5, x6, x7, x8, x9, x10, x11, some (.lst true vs), none, none, none, none] = .nx (some d :: δ') ∧ δ'.length = 16 := by
  have vp : D.pureL vs = true := pureL_iff.mpr fun y my => (hv y my).pure
  have fz := frzL_of_pure vp
  unfold r19
  generalize hb : (mSs [(mAsg [0] (.nm 10) _), _] : Ms) = body
  obtain ⟨δ', g1, g2⟩ := for_inv (P := [0]) (mi := mItV (mVar 12)) (t := .nm 13) (b := body) (δ := [some d, some (.int (n : Int)), some (TN p), x3, some (TN (idt n)), x5, x6, x7, x8, x9, x10, x11, some (.lst true vs), none, none, none, none]) (δ1 := [some d, some (.int (n : Int)), some (TN p), x3, some (TN (idt n)), x5, x6, x7, x8, x9, x10, x11, some (.lst false vs), none, none, none, none]) (ds := vs)
    (fun i δ => ∃ x10 x13, δ = [some d, some (.int (n : Int)), some (TN p), x3, some (TN (idt n)), x5, x6, x7, x8, x9, x10, x11, some (.lst false vs), x13, none, none, none]) (by generalize TN (idt n) = SS at *; simp [callM, somes, pureOut, finP, CR.nox, mSs, mSeq, mPass, mRetM, mRetN, mMove, mDo, mAsg, mIfS, mFor, mPar, allDt, mAndV, mOrV, mNotV, mBl, mTru, mAnd, mOr, mNot, mIf, mOp1, mOp2, mOpL, mL, mNil, mCons, mVar, mC, mCh, mVal, valA, mFz, mDt, mTup, mLst, mDct0, mCall, mPerm, permA, lentSlots_pure, back_pure, lentSlots_nil, lentSlots_dt, lentSlots_nm, lentAt_nil, lentAt_dt, lentAt_nm, mSl, mPart, mPart0, mItV, mItR1, mItR2, mItE, mMe, mMeEnd, mSto, resA, resAs, ofO, tgt, tgtL, D.frz, D.pure, D.pureL, D.frzL, mFail, mFailS, truD, List.replicate_succ, fLt, fLe, fGt, fGe, itF, vp, fz]) ⟨_, _, rfl⟩ (by
      rintro i y δ w ⟨x10, x13, rfl⟩
      have my := List.mem_of_getElem? w
      have vy := hv y my
      have yp := vy.pure
      have e1 := due_ev j (d := d) n2 (p := p) (x3 := x3) (x5 := x5) (x6 := x6) (x7 := x7) (x8 := x8) (x9 := x9) (x10 := x10) (x11 := x11) (x12 := some (.lst false vs)) vy
      have e2 := is_turn_due (j + 2) n1 n2 vy
      obtain ⟨s, s1, s2⟩ := shBl (dueB n y)
      generalize dueB n y = b at *
      generalize TN (idt n) = SS at *
      refine ⟨[some d, some (.int (n : Int)), some (TN p), x3, some SS, x5, x6, x7, x8, x9, x10, x11, some (.lst false vs), some y, none, none, none], [some d, some (.int (n : Int)), some (TN p), x3, some SS, x5, x6, x7, x8, x9, some (.bl b), x11, some (.lst false vs), some y, none, none, none], by simp [callM, somes, pureOut, finP, CR.nox, mSs, mSeq, mPass, mRetM, mRetN, mMove, mDo, mAsg, mIfS, mFor, mPar, allDt, mAndV, mOrV, mNotV, mBl, mTru, mAnd, mOr, mNot, mIf, mOp1, mOp2, mOpL, mL, mNil, mCons, mVar, mC, mCh, mVal, valA, mFz, mDt, mTup, mLst, mDct0, mCall, mPerm, permA, lentSlots_pure, back_pure, lentSlots_nil, lentSlots_dt, lentSlots_nm, lentAt_nil, lentAt_dt, lentAt_nm, mSl, mPart, mPart0, mItV, mItR1, mItR2, mItE, mMe, mMeEnd, mSto, resA, resAs, ofO, tgt, tgtL, D.frz, D.pure, D.pureL, D.frzL, mFail, mFailS, truD, List.replicate_succ, fLt, fLe, fGt, fGe], ?_, _, _, rfl⟩
      subst hb
      refine ss_nx (δ1 := [some d, some (.int (n : Int)), some (TN p), x3, some SS, x5, x6, x7, x8, x9, some (.bl b), x11, some (.lst false vs), some y, none, none, none]) ?_ (ss_nx (δ1 := [some d, some (.int (n : Int)), some (TN p), x3, some SS, x5, x6, x7, x8, x9, some (.bl b), x11, some (.lst false vs), some y, none, none, none]) ?_ rfl)
      · exact asg_eq (x := .bl b) (δ1 := [some d, some (.int (n : Int)), some (TN p), x3, some SS, x5, x6, x7, x8, x9, x10, x11, some (.lst false vs), some y, none, none, none]) (by unfold mVal; rw [e1]; rfl) (by simp [callM, somes, pureOut, finP, CR.nox, mSs, mSeq, mPass, mRetM, mRetN, mMove, mDo, mAsg, mIfS, mFor, mPar, allDt, mAndV, mOrV, mNotV, mBl, mTru, mAnd, mOr, mNot, mIf, mOp1, mOp2, mOpL, mL, mNil, mCons, mVar, mC, mCh, mVal, valA, mFz, mDt, mTup, mLst, mDct0, mCall, mPerm, permA, lentSlots_pure, back_pure, lentSlots_nil, lentSlots_dt, lentSlots_nm, lentAt_nil, lentAt_dt, lentAt_nm, mSl, mPart, mPart0, mItV, mItR1, mItR2, mItE, mMe, mMeEnd, mSto, resA, resAs, ofO, tgt, tgtL, D.frz, D.pure, D.pureL, D.frzL, mFail, mFailS, truD, List.replicate_succ, fLt, fLe, fGt, fGe])
      · simp [callM, somes, pureOut, finP, CR.nox, mSs, mSeq, mPass, mRetM, mRetN, mMove, mDo, mAsg, mIfS, mFor, mPar, allDt, mAndV, mOrV, mNotV, mBl, mTru, mAnd, mOr, mNot, mIf, mOp1, mOp2, mOpL, mL, mNil, mCons, mVar, mC, mCh, mVal, valA, mFz, mDt, mTup, mLst, mDct0, mCall, mPerm, permA, lentSlots_pure, back_pure, lentSlots_nil, lentSlots_dt, lentSlots_nm, lentAt_nil, lentAt_dt, lentAt_nm, mSl, mPart, mPart0, mItV, mItR1, mItR2, mItE, mMe, mMeEnd, mSto, resA, resAs, ofO, tgt, tgtL, D.frz, D.pure, D.pureL, D.frzL, mFail, mFailS, truD, List.replicate_succ, fLt, fLe, fGt, fGe, e2, s1, s2, yp])
  obtain ⟨x10', x13, rfl⟩ := g2
  exact ⟨_, g1, rfl⟩
theorem rs20 (j : Nat) {δ : Env'} : r20 (j + 7) δ = .rt (.bl true) δ := rfl
theorem t__law_right (k : Nat) {c : Nat} {d : Yv.D} (h : Pot c d) (hc : c ≤ 600000000) : ∃ d' : Yv.D, fm__law_right (k + 8) [d] = .ok (.bl true) [d'] ∧ Pot (c + 1000) d' := by
  obtain ⟨n, d0, e0, n1, n2, P0⟩ := rs0 k h (by omega)
  obtain ⟨p, q, d1, e1, hp, hq, P1⟩ := rs1 k P0 (by omega) n1 n2
  have e2 := rs2 k (d := d1) n1 n2 hp hq
  have e3 := rs3 k (d := d1) n2 (q := q) hp
  have e4 := rs4 k (d := d1) n1 n2 (q := q) hp
  have e5 := rs5 k (d := d1) (n := n) (p := p) (q := q)
  obtain ⟨a7, e6⟩ := rs6 k (d := d1) n2 (q := q) hp
  have e7 := rs7 k (d := d1) n1 n2 (q := q) hp (a7 := a7)
  have e8 := rs8 k (d := d1) n2 (q := q) hp (a7 := a7)
  have e9 := rs9 k (d := d1) n1 n2 hp hq (a7 := a7)
  obtain ⟨m, d2, e10, m1, m2, P2⟩ := rs10 k P1 (by omega) (n := n) (p := p) (q := q) (a7 := a7)
  have e11 := rs11 k (d := d2) (n := n) (p := p) (q := q) (a7 := a7) (m := m)
  obtain ⟨a11, e12, va⟩ := rs12 k (d := d2) n2 (q := q) hp (a7 := a7) (m := m)
  have e13 := rs13 k (d := d2) n1 n2 (q := q) hp (a7 := a7) (a11 := a11) m1 m2
  have e14 := rs14 k (d := d2) n1 n2 hp hq (a7 := a7) (a11 := a11) (m := m)
  obtain ⟨ds, d3, e15, dl, d5, P3⟩ := rs15 k P2 (by omega) n2 (p := p) (q := q) (a7 := a7) (a11 := a11) (m := m)
  have dp : D.pureL ds = true := pureL_iff.mpr fun y my => pureL_iff.mp five_pure y (d5 y my)
  have e16 := rs16 k (d := d3) n2 (q := q) hp (a11 := a11) (m := m) dl dp
  have e17 := rs17 k (d := d3) n1 n2 (q := q) hp (a11 := a11) (m := m) dl d5
  obtain ⟨vs, d4, e18, hv, vl, P4⟩ := rs18 k P3 (by omega) n1 n2 hp va
  obtain ⟨δ', e19, hl⟩ := rs19 k (d := d4) n1 n2 (p := p) hv
  have hbody := ss_nx e0 (ss_nx e1 (ss_nx e2 (ss_nx e3 (ss_nx e4 (ss_nx e5 (ss_nx e6 (ss_nx e7 (ss_nx e8 (ss_nx e9 (ss_nx e10 (ss_nx e11 (ss_nx e12 (ss_nx e13 (ss_nx e14 (ss_nx e15 (ss_nx e16 (ss_nx e17 (ss_nx e18 (ss_nx e19 (ss_rt (r := []) (rs20 k)))))))))))))))))))))
  refine ⟨d4, ?_, P4.up (by omega)⟩
  rw [f__law_right, req]
  exact run_rt (by simp [callM, somes, pureOut, finP, CR.nox, mSs, mSeq, mPass, mRetM, mRetN, mMove, mDo, mAsg, mIfS, mFor, mPar, allDt, mAndV, mOrV, mNotV, mBl, mTru, mAnd, mOr, mNot, mIf, mOp1, mOp2, mOpL, mL, mNil, mCons, mVar, mC, mCh, mVal, valA, mFz, mDt, mTup, mLst, mDct0, mCall, mPerm, permA, lentSlots_pure, back_pure, lentSlots_nil, lentSlots_dt, lentSlots_nm, lentAt_nil, lentAt_dt, lentAt_nm, mSl, mPart, mPart0, mItV, mItR1, mItR2, mItE, mMe, mMeEnd, mSto, resA, resAs, ofO, tgt, tgtL, D.frz, D.pure, D.pureL, D.frzL, mFail, mFailS, truD, List.replicate_succ, fLt, fLe, fGt, fGe, d__law_right]) hbody (by simp [callM, somes, pureOut, finP, CR.nox, mSs, mSeq, mPass, mRetM, mRetN, mMove, mDo, mAsg, mIfS, mFor, mPar, allDt, mAndV, mOrV, mNotV, mBl, mTru, mAnd, mOr, mNot, mIf, mOp1, mOp2, mOpL, mL, mNil, mCons, mVar, mC, mCh, mVal, valA, mFz, mDt, mTup, mLst, mDct0, mCall, mPerm, permA, lentSlots_pure, back_pure, lentSlots_nil, lentSlots_dt, lentSlots_nm, lentAt_nil, lentAt_dt, lentAt_nm, mSl, mPart, mPart0, mItV, mItR1, mItR2, mItE, mMe, mMeEnd, mSto, resA, resAs, ofO, tgt, tgtL, D.frz, D.pure, D.pureL, D.frzL, mFail, mFailS, truD, List.replicate_succ, fLt, fLe, fGt, fGe, d__law_right])
end Lw

set_option Elab.async false
set_option linter.all false
set_option maxRecDepth 100000
set_option maxHeartbeats 4000000
namespace Lw
open PySem L2 Yv Mt
theorem t_law (k : Nat) (ns : List Int) (h : ns.length ≤ 63) : fm_law (k + 9) [.scr ns] = .ok (.bl true) [.scr ns] := by
  have ec := t__law_cells (k + 7) ns h
  have hm : max 1 (min 3 ns.length) ≤ 3 := by omega
  have h0 : ∀ i, i < max 1 (min 3 ns.length) → i < ns.length ∨ ns = [] := fun i hi => by
    cases ns with
    | nil => exact .inr rfl
    | cons a l => left; simp only [List.length_cons] at hi ⊢; omega
  generalize max 1 (min 3 ns.length) = mm at *
  rw [f_law]
  unfold b_law
  generalize hb : (mSs [(mAsg [0] (.nm 2) _), _] : Ms) = body
  obtain ⟨δ', g1, g2⟩ := for_inv (P := [0]) (mi := mItV (mCall (fm__law_cells (k + 8)) (mL [(mVar 0), (mC (.int 3))]))) (t := .nm 1) (b := body) (δ := [some (.scr ns), none, none, none]) (δ1 := [some (.scr ns), none, none, none]) (ds := nI (List.range mm))
    (fun i δ => ∃ x1 x2, δ = [some (.scr ns), x1, x2, none]) (by simp [callM, somes, pureOut, finP, CR.nox, mSs, mSeq, mPass, mRetM, mRetN, mMove, mDo, mAsg, mIfS, mFor, mPar, allDt, mAndV, mOrV, mNotV, mBl, mTru, mAnd, mOr, mNot, mIf, mOp1, mOp2, mOpL, mL, mNil, mCons, mVar, mC, mCh, mVal, valA, mFz, mDt, mTup, mLst, mDct0, mCall, mPerm, permA, lentSlots_pure, back_pure, lentSlots_nil, lentSlots_dt, lentSlots_nm, lentAt_nil, lentAt_dt, lentAt_nm, mSl, mPart, mPart0, mItV, mItR1, mItR2, mItE, mMe, mMeEnd, mSto, resA, resAs, ofO, tgt, tgtL, D.frz, D.pure, D.pureL, D.frzL, mFail, mFailS, truD, List.replicate_succ, fLt, fLe, fGt, fGe, ec, itF, nI_pure, nI_frz]) ⟨_, _, rfl⟩ (by
      rintro i x δ w ⟨x1, x2, rfl⟩
      have hi : i < mm := by have := (List.getElem?_eq_some_iff.mp w).1; rw [nI_len] at this; simpa using this
      have hd : x = .int (i : Int) := by rw [nI_at (by simpa using hi)] at w; simpa using w.symm
      subst hd
      obtain ⟨d, e1, P⟩ := t__law_pot (k + 7) ns i (by omega) (h0 i hi)
      obtain ⟨ys, δ', g1, g2⟩ := lc_inv (mi := mItR1 (mL [(mC (.int 5))])) (t := .nm 3) (tt := mYes) (te := mCall (fm__law_right (k + 8)) (mL [(mVar 2)])) (vs := [3]) (δ := [some (.scr ns), some (.int (i : Int)), some d, none]) (δ1 := [some (.scr ns), some (.int (i : Int)), some d, none]) (ds := nI (List.range 5))
        (fun a acc δ => ∃ d', δ = [some (.scr ns), some (.int (i : Int)), some d', none] ∧ (∃ m, acc = (List.replicate m true).map .bl) ∧ Pot (1000 * a) d') (by rw [← intsD_eq]; simp [callM, somes, pureOut, finP, CR.nox, mSs, mSeq, mPass, mRetM, mRetN, mMove, mDo, mAsg, mIfS, mFor, mPar, allDt, mAndV, mOrV, mNotV, mBl, mTru, mAnd, mOr, mNot, mIf, mOp1, mOp2, mOpL, mL, mNil, mCons, mVar, mC, mCh, mVal, valA, mFz, mDt, mTup, mLst, mDct0, mCall, mPerm, permA, lentSlots_pure, back_pure, lentSlots_nil, lentSlots_dt, lentSlots_nm, lentAt_nil, lentAt_dt, lentAt_nm, mSl, mPart, mPart0, mItV, mItR1, mItR2, mItE, mMe, mMeEnd, mSto, resA, resAs, ofO, tgt, tgtL, D.frz, D.pure, D.pureL, D.frzL, mFail, mFailS, truD, List.replicate_succ, fLt, fLe, fGt, fGe, show rg1 [.int 5] = some 5 from rfl]) rfl (by rw [nI_len]; simp) ⟨d, rfl, ⟨0, rfl⟩, P⟩ (by
          rintro a x acc δ w ⟨d', rfl, ⟨m, rfl⟩, P'⟩
          obtain ⟨z, mz, rfl⟩ := nI_mem (List.mem_of_getElem? w)
          have ha : a < 5 := by have := (List.getElem?_eq_some_iff.mp w).1; rw [nI_len] at this; simpa using this
          obtain ⟨d2, e, P2⟩ := t__law_right k P' (by omega)
          have np' := P'.np
          refine .inl ⟨.bl true, [some (.scr ns), some (.int (i : Int)), some d2, none], ?_, d2, rfl, ⟨m + 1, by rw [List.replicate_succ', List.map_append]; rfl⟩, by rw [Nat.mul_add]; exact P2⟩
          simp [callM, somes, pureOut, finP, CR.nox, mSs, mSeq, mPass, mRetM, mRetN, mMove, mDo, mAsg, mIfS, mFor, mPar, allDt, mAndV, mOrV, mNotV, mBl, mTru, mAnd, mOr, mNot, mIf, mOp1, mOp2, mOpL, mL, mNil, mCons, mVar, mC, mCh, mVal, valA, mFz, mDt, mTup, mLst, mDct0, mCall, mPerm, permA, lentSlots_pure, back_pure, lentSlots_nil, lentSlots_dt, lentSlots_nm, lentAt_nil, lentAt_dt, lentAt_nm, mSl, mPart, mPart0, mItV, mItR1, mItR2, mItE, mMe, mMeEnd, mSto, resA, resAs, ofO, tgt, tgtL, D.frz, D.pure, D.pureL, D.frzL, mFail, mFailS, truD, List.replicate_succ, fLt, fLe, fGt, fGe, lcStep, others, wipeD, backD, mYes, List.range_succ, e, np', back])
      obtain ⟨d', rfl, ⟨m, rfl⟩, P'⟩ := g2
      have ea : lB fAll [.lst true ((List.replicate m true).map .bl)] = some (.bl true) := by
        unfold lB itL
        simp only [pureL_bls, if_true, blsOf_map, fAll, Option.map_some]
        congr 2
        rw [List.all_eq_true]
        intro b mb; exact (List.mem_replicate.mp mb).2
      generalize (List.replicate m true).map Yv.D.bl = zz at *
      simp only [mL] at g1
      refine ⟨[some (.scr ns), some (.int (i : Int)), x2, none], [some (.scr ns), some (.int (i : Int)), some d', none], by simp [callM, somes, pureOut, finP, CR.nox, mSs, mSeq, mPass, mRetM, mRetN, mMove, mDo, mAsg, mIfS, mFor, mPar, allDt, mAndV, mOrV, mNotV, mBl, mTru, mAnd, mOr, mNot, mIf, mOp1, mOp2, mOpL, mL, mNil, mCons, mVar, mC, mCh, mVal, valA, mFz, mDt, mTup, mLst, mDct0, mCall, mPerm, permA, lentSlots_pure, back_pure, lentSlots_nil, lentSlots_dt, lentSlots_nm, lentAt_nil, lentAt_dt, lentAt_nm, mSl, mPart, mPart0, mItV, mItR1, mItR2, mItE, mMe, mMeEnd, mSto, resA, resAs, ofO, tgt, tgtL, D.frz, D.pure, D.pureL, D.frzL, mFail, mFailS, truD, List.replicate_succ, fLt, fLe, fGt, fGe], ?_, _, _, rfl⟩
      subst hb
      exact ss_nx (δ1 := [some (.scr ns), some (.int (i : Int)), some d, none]) (by simp [callM, somes, pureOut, finP, CR.nox, mSs, mSeq, mPass, mRetM, mRetN, mMove, mDo, mAsg, mIfS, mFor, mPar, allDt, mAndV, mOrV, mNotV, mBl, mTru, mAnd, mOr, mNot, mIf, mOp1, mOp2, mOpL, mL, mNil, mCons, mVar, mC, mCh, mVal, valA, mFz, mDt, mTup, mLst, mDct0, mCall, mPerm, permA, lentSlots_pure, back_pure, lentSlots_nil, lentSlots_dt, lentSlots_nm, lentAt_nil, lentAt_dt, lentAt_nm, mSl, mPart, mPart0, mItV, mItR1, mItR2, mItE, mMe, mMeEnd, mSto, resA, resAs, ofO, tgt, tgtL, D.frz, D.pure, D.pureL, D.frzL, mFail, mFailS, truD, List.replicate_succ, fLt, fLe, fGt, fGe, e1]) (ss_nx (δ1 := [some (.scr ns), some (.int (i : Int)), some d', none]) (by simp [callM, somes, pureOut, finP, CR.nox, mSs, mSeq, mPass, mRetM, mRetN, mMove, mDo, mAsg, mIfS, mFor, mPar, allDt, mAndV, mOrV, mNotV, mBl, mTru, mAnd, mOr, mNot, mIf, mOp1, mOp2, mOpL, mL, mNil, mCons, mVar, mC, mCh, mVal, valA, mFz, mDt, mTup, mLst, mDct0, mCall, mPerm, permA, lentSlots_pure, back_pure, lentSlots_nil, lentSlots_dt, lentSlots_nm, lentAt_nil, lentAt_dt, lentAt_nm, mSl, mPart, mPart0, mItV, mItR1, mItR2, mItE, mMe, mMeEnd, mSto, resA, resAs, ofO, tgt, tgtL, D.frz, D.pure, D.pureL, D.frzL, mFail, mFailS, truD, List.replicate_succ, fLt, fLe, fGt, fGe, g1, ea]) rfl))
  obtain ⟨x1, x2, rfl⟩ := g2
  exact run_rt (δ := [some (.scr ns), x1, x2, none]) (by simp [callM, somes, pureOut, finP, CR.nox, mSs, mSeq, mPass, mRetM, mRetN, mMove, mDo, mAsg, mIfS, mFor, mPar, allDt, mAndV, mOrV, mNotV, mBl, mTru, mAnd, mOr, mNot, mIf, mOp1, mOp2, mOpL, mL, mNil, mCons, mVar, mC, mCh, mVal, valA, mFz, mDt, mTup, mLst, mDct0, mCall, mPerm, permA, lentSlots_pure, back_pure, lentSlots_nil, lentSlots_dt, lentSlots_nm, lentAt_nil, lentAt_dt, lentAt_nm, mSl, mPart, mPart0, mItV, mItR1, mItR2, mItE, mMe, mMeEnd, mSto, resA, resAs, ofO, tgt, tgtL, D.frz, D.pure, D.pureL, D.frzL, mFail, mFailS, truD, List.replicate_succ, fLt, fLe, fGt, fGe, d_law]) (ss_nx g1 (ss_rt (by simp [callM, somes, pureOut, finP, CR.nox, mSs, mSeq, mPass, mRetM, mRetN, mMove, mDo, mAsg, mIfS, mFor, mPar, allDt, mAndV, mOrV, mNotV, mBl, mTru, mAnd, mOr, mNot, mIf, mOp1, mOp2, mOpL, mL, mNil, mCons, mVar, mC, mCh, mVal, valA, mFz, mDt, mTup, mLst, mDct0, mCall, mPerm, permA, lentSlots_pure, back_pure, lentSlots_nil, lentSlots_dt, lentSlots_nm, lentAt_nil, lentAt_dt, lentAt_nm, mSl, mPart, mPart0, mItV, mItR1, mItR2, mItE, mMe, mMeEnd, mSto, resA, resAs, ofO, tgt, tgtL, D.frz, D.pure, D.pureL, D.frzL, mFail, mFailS, truD, List.replicate_succ, fLt, fLe, fGt, fGe]))) (by simp [callM, somes, pureOut, finP, CR.nox, mSs, mSeq, mPass, mRetM, mRetN, mMove, mDo, mAsg, mIfS, mFor, mPar, allDt, mAndV, mOrV, mNotV, mBl, mTru, mAnd, mOr, mNot, mIf, mOp1, mOp2, mOpL, mL, mNil, mCons, mVar, mC, mCh, mVal, valA, mFz, mDt, mTup, mLst, mDct0, mCall, mPerm, permA, lentSlots_pure, back_pure, lentSlots_nil, lentSlots_dt, lentSlots_nm, lentAt_nil, lentAt_dt, lentAt_nm, mSl, mPart, mPart0, mItV, mItR1, mItR2, mItE, mMe, mMeEnd, mSto, resA, resAs, ofO, tgt, tgtL, D.frz, D.pure, D.pureL, D.frzL, mFail, mFailS, truD, List.replicate_succ, fLt, fLe, fGt, fGe, d_law])
def lev : Nat := 30
theorem room : RoomG lev callerA := ⟨⟨rfl, by decide, by decide⟩, rfl⟩
def fmLaw : List Yv.D → Yv.CR := fm_law 29
theorem sem_law : g.sem lev "law" = some fmLaw := by
  show (g.df "law").map _ = _
  rw [df_law]; rfl
theorem main (ns : List Int) (h : ns.length ≤ 63) : fmLaw [.scr ns] = .ok (.bl true) [.scr ns] := t_law 20 ns h
end Lw

open PySem PySem.W PyProof.Rows in
set_option maxRecDepth 100000 in
set_option maxHeartbeats 0 in
theorem PySem.Challenge.cw_everyonegetsthere_k09_whole_turns_of_pla_holds : PySem.Challenge.rw_everyonegetsthere_k09_whole_turns_of_pla.Holds := by
  w_on; o_law; k_head; (case hw => w_witness2)
  k_fill
  refine Yv.walk_law (l := PySem.Challenge.rw_everyonegetsthere_k09_whole_turns_of_pla) (n := 63) (k := Lw.lev) (g := Lw.g) (dl := Lw.d_law) rfl (by decide) rfl Lw.room (fun w h Y => PySem.W.kIn_of Y) Lw.df_law rfl Lw.sem_law Lw.main ?F
  case F =>
    intro w mg h KX G
    refine' Lw.pg_ok KX G ?h0 ?h1 ?h2 ?h3 ?h4 ?h5 ?h6 ?h7 ?h8 ?h9 ?h10 ?h11 ?h12 ?h13 ?h14 ?h15 ?h16 ?h17 ?h18 ?h19 ?h20 ?h21 ?h22 ?h23 ?h24 ?h25 ?h26 ?h27 ?h28 ?h29 ?h30 ?h31 ?h32 ?h33 ?h34 ?h35 ?h36 ?h37 ?h38 ?h39 ?h40 ?h41 ?h42 ?v0 ?v1 ?z0 ?z1 ?z2 ?z3 ?z4 ?z5 ?z6 ?z7 ?z8 ?z9 ?z10 ?z11 ?z12 ?z13 ?z14 ?z15 ?z16 ?z17
    (case h0 => (refine' Lw.mk_is_integer KX G ?a ?l ?c ?k; (case a => k_is); (case l => k_is); (case c => k_is); (case k => k_is)))
    (case h1 => (refine' Lw.mk_is_between KX G ?a ?l ?c ?k; (case a => k_is); (case l => k_is); (case c => k_is); (case k => k_is)))
    (case h2 => (refine' Lw.mk_are_between KX G ?a ?l ?c ?k; (case a => k_is); (case l => k_is); (case c => k_is); (case k => k_is)))
    (case h3 => (refine' Lw.mk_is_tuple_of KX G ?a ?l ?c ?k; (case a => k_is); (case l => k_is); (case c => k_is); (case k => k_is)))
    (case h4 => (refine' Lw.mk_check_many KX G ?a ?l ?c ?k; (case a => k_is); (case l => k_is); (case c => k_is); (case k => k_is)))
    (case h5 => (refine' Lw.mk_is_turn_of KX G ?a ?l ?c ?k; (case a => k_is); (case l => k_is); (case c => k_is); (case k => k_is)))
    (case h6 => (refine' Lw.mk_is_turn KX G ?a ?l ?c ?k; (case a => k_is); (case l => k_is); (case c => k_is); (case k => k_is)))
    (case h7 => (refine' Lw.mk_check_turn KX G ?a ?l ?c ?k; (case a => k_is); (case l => k_is); (case c => k_is); (case k => k_is)))
    (case h8 => (refine' Lw.mk_check_both_turns KX G ?a ?l ?c ?k; (case a => k_is); (case l => k_is); (case c => k_is); (case k => k_is)))
    (case h9 => (refine' Lw.mk_still_of KX G ?a ?l ?c ?k; (case a => k_is); (case l => k_is); (case c => k_is); (case k => k_is)))
    (case h10 => (refine' Lw.mk_still KX G ?a ?l ?c ?k; (case a => k_is); (case l => k_is); (case c => k_is); (case k => k_is)))
    (case h11 => (refine' Lw.mk_then KX G ?a ?l ?c ?k; (case a => k_is); (case l => k_is); (case c => k_is); (case k => k_is)))
    (case h12 => (refine' Lw.mk_behind KX G ?a ?l ?c ?k; (case a => k_is); (case l => k_is); (case c => k_is); (case k => k_is)))
    (case h13 => (refine' Lw.mk_back_of KX G ?a ?l ?c ?k; (case a => k_is); (case l => k_is); (case c => k_is); (case k => k_is)))
    (case h14 => (refine' Lw.mk_back KX G ?a ?l ?c ?k; (case a => k_is); (case l => k_is); (case c => k_is); (case k => k_is)))
    (case h15 => (refine' Lw.mk_times KX G ?a ?l ?c ?k; (case a => k_is); (case l => k_is); (case c => k_is); (case k => k_is)))
    (case h16 => (refine' Lw.mk_turned_by KX G ?a ?l ?c ?k; (case a => k_is); (case l => k_is); (case c => k_is); (case k => k_is)))
    (case h17 => (refine' Lw.mk_rounds_in KX G ?a ?l ?c ?k; (case a => k_is); (case l => k_is); (case c => k_is); (case k => k_is)))
    (case h18 => (refine' Lw.mk_rounds_of KX G ?a ?l ?c ?k; (case a => k_is); (case l => k_is); (case c => k_is); (case k => k_is)))
    (case h19 => (refine' Lw.mk_turn_by_rounds KX G ?a ?l ?c ?k; (case a => k_is); (case l => k_is); (case c => k_is); (case k => k_is)))
    (case h20 => (refine' Lw.mk_are_rounds KX G ?a ?l ?c ?k; (case a => k_is); (case l => k_is); (case c => k_is); (case k => k_is)))
    (case h21 => (refine' Lw.mk_turn_of_rounds KX G ?a ?l ?c ?k; (case a => k_is); (case l => k_is); (case c => k_is); (case k => k_is)))
    (case h22 => (refine' Lw.mk_common KX G ?a ?l ?c ?k; (case a => k_is); (case l => k_is); (case c => k_is); (case k => k_is)))
    (case h23 => (refine' Lw.mk_order_in KX G ?a ?l ?c ?k; (case a => k_is); (case l => k_is); (case c => k_is); (case k => k_is)))
    (case h24 => (refine' Lw.mk_order_of KX G ?a ?l ?c ?k; (case a => k_is); (case l => k_is); (case c => k_is); (case k => k_is)))
    (case h25 => (refine' Lw.mk_is_even_of KX G ?a ?l ?c ?k; (case a => k_is); (case l => k_is); (case c => k_is); (case k => k_is)))
    (case h26 => (refine' Lw.mk_is_even KX G ?a ?l ?c ?k; (case a => k_is); (case l => k_is); (case c => k_is); (case k => k_is)))
    (case h27 => (refine' Lw.mk_row_moved KX G ?a ?l ?c ?k; (case a => k_is); (case l => k_is); (case c => k_is); (case k => k_is)))
    (case h28 => (refine' Lw.mk_moved KX G ?a ?l ?c ?k; (case a => k_is); (case l => k_is); (case c => k_is); (case k => k_is)))
    (case h29 => (refine' Lw.mk__law_pot KX G ?a ?l ?c ?k; (case a => k_is); (case l => k_is); (case c => k_is); (case k => k_is)))
    (case h30 => (refine' Lw.mk__law_take KX G ?a ?l ?c ?k; (case a => k_is); (case l => k_is); (case c => k_is); (case k => k_is)))
    (case h31 => (refine' Lw.mk__law_of KX G ?a ?l ?c ?k; (case a => k_is); (case l => k_is); (case c => k_is); (case k => k_is)))
    (case h32 => (refine' Lw.mk__law_cells KX G ?a ?l ?c ?k; (case a => k_is); (case l => k_is); (case c => k_is); (case k => k_is)))
    (case h33 => (refine' Lw.mk__law_some KX G ?a ?l ?c ?k; (case a => k_is); (case l => k_is); (case c => k_is); (case k => k_is)))
    (case h34 => (refine' Lw.mk__law_is_int KX G ?a ?l ?c ?k; (case a => k_is); (case l => k_is); (case c => k_is); (case k => k_is)))
    (case h35 => (refine' Lw.mk__law_bent KX G ?a ?l ?c ?k; (case a => k_is); (case l => k_is); (case c => k_is); (case k => k_is)))
    (case h36 => (refine' Lw.mk__law_turn KX G ?a ?l ?c ?k; (case a => k_is); (case l => k_is); (case c => k_is); (case k => k_is)))
    (case h37 => (refine' Lw.mk__law_then KX G ?a ?l ?c ?k; (case a => k_is); (case l => k_is); (case c => k_is); (case k => k_is)))
    (case h38 => (refine' Lw.mk__law_back KX G ?a ?l ?c ?k; (case a => k_is); (case l => k_is); (case c => k_is); (case k => k_is)))
    (case h39 => (refine' Lw.mk__law_rounds KX G ?a ?l ?c ?k; (case a => k_is); (case l => k_is); (case c => k_is); (case k => k_is)))
    (case h40 => (refine' Lw.mk__law_common KX G ?a ?l ?c ?k; (case a => k_is); (case l => k_is); (case c => k_is); (case k => k_is)))
    (case h41 => (refine' Lw.mk__law_right KX G ?a ?l ?c ?k; (case a => k_is); (case l => k_is); (case c => k_is); (case k => k_is)))
    (case h42 => (refine' Lw.mk_law KX G ?a ?l ?c ?k; (case a => k_is); (case l => k_is); (case c => k_is); (case k => k_is)))
    (case v0 => k_is)
    (case v1 => k_is)
    (case z0 => k_is)
    (case z1 => k_is)
    (case z2 => k_is)
    (case z3 => k_is)
    (case z4 => k_is)
    (case z5 => k_is)
    (case z6 => k_is)
    (case z7 => k_is)
    (case z8 => k_is)
    (case z9 => k_is)
    (case z10 => k_is)
    (case z11 => k_is)
    (case z12 => k_is)
    (case z13 => k_is)
    (case z14 => k_is)
    (case z15 => k_is)
    (case z16 => k_is)
    (case z17 => k_is)
