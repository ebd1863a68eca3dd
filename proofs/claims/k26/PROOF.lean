import PyProof.Rows.All
import Wide.All
import OpenK.AllK
import Wide.FinOn
import HandS.Base
import HandS.Call
import HandS.List
import HandS.Comp
import HandS.Dict
import HandS.Iter
import HandS.Walk
import HandS.Conv
import HandS.Zip
import HandS.Rev
import HandS.RevRange
import HandS.RevTup
import HandS.TupAny
import HandS.TupMul
import HandS.Style
import HandS.Flow
import HandS.IsInst
import HandS.Deep
import HandS.Exc
import HandS.ExcInit
import HandS.ExcIs
import HandS.ExcField
import HandS.TryMany
import HandS.Words
import HandS.WordsList
import HandS.WordsExc
import HandS.Defaults
import HandS.Codes
import HandS.Lambda
import PySem.Challenge.RW_stairyard_k26_whole_least_stock_more
import KE.DataMinMax
import KE.GoesMore
import KE.GoesEnum
import PyProof.EnumMake
import KE.KRevSl
import KE.KDictDisplayH
import HandS.Sort
import KE.KSortTupG
import KE.KDictKeyed
import KE.KeyNested
import PyProof.IsiTuple
import KE.KIsAll
import PyProof.ReprRoads
import PyProof.CallFns
import HandS.EndTab
import HandS.HeadWalk
import HandS.Ends
import HandS.Head0
import HandS.Head1
import HandS.Head2
import HandS.HeadEnd
import HandS.HeadHook1
import HandS.HeadHook2
import HandS.HeadHook3
import HandS.HeadHook4
set_option linter.all false
namespace K26

/-! ## rows, stairs -/
/-- pointwise, of one length -/
def Le : List Int → List Int → Prop
  | [], [] => True
  | a :: as, b :: bs => a ≤ b ∧ Le as bs
  | _, _ => False
def add : List Int → List Int → List Int
  | a :: as, b :: bs => (a + b) :: add as bs
  | _, _ => []
def sub : List Int → List Int → List Int
  | a :: as, b :: bs => (a - b) :: sub as bs
  | _, _ => []
def Nn : List Int → Prop
  | [] => True
  | a :: as => 0 ≤ a ∧ Nn as
def Ps : List Int → Prop
  | [] => True
  | a :: as => 1 ≤ a ∧ Ps as
/-- the stair's items, p ahead -/
def sg : List Int → Int → List Int → List Int
  | u :: us, p, r :: rs => (u * p + r) :: sg us (u * p + r) rs
  | _, _, _ => []
def rg : List Int → Int → List Int → List Int
  | u :: us, p, c :: cs => (c - u * p) :: rg us c cs
  | _, _, _ => []
def ug : List Int → Int → List Int → List Int
  | u :: us, p, d :: ds => max d (u * p) :: ug us (max d (u * p)) ds
  | _, _, _ => []
def dn : List Int → List Int → List Int
  | u :: us, d :: ds => min d ((dn us ds).headD 0 / u) :: dn us ds
  | _, ds => ds
def IsSt : List Int → Int → List Int → Prop
  | [], _, [] => True
  | u :: us, p, c :: cs => u * p ≤ c ∧ IsSt us c cs
  | _, _, _ => False

theorem Le.len : ∀ {a b : List Int}, Le a b → a.length = b.length
  | [], [], _ => rfl
  | _ :: as, _ :: bs, h => by simp [Le.len h.2]
  | [], _ :: _, h => h.elim
  | _ :: _, [], h => h.elim
theorem Le.refl : ∀ a : List Int, Le a a
  | [] => trivial
  | a :: as => ⟨Int.le_refl a, Le.refl as⟩
theorem Le.trans : ∀ {a b c : List Int}, Le a b → Le b c → Le a c
  | [], [], [], _, _ => trivial
  | _ :: _, _ :: _, _ :: _, h, k => ⟨Int.le_trans h.1 k.1, Le.trans h.2 k.2⟩
  | [], _ :: _, _, h, _ => h.elim
  | _ :: _, [], _, h, _ => h.elim
  | [], [], _ :: _, _, k => k.elim
  | _ :: _, _ :: _, [], _, k => k.elim
theorem Le.antisymm : ∀ {a b : List Int}, Le a b → Le b a → a = b
  | [], [], _, _ => rfl
  | _ :: _, _ :: _, h, k => by rw [Int.le_antisymm h.1 k.1, Le.antisymm h.2 k.2]
  | [], _ :: _, h, _ => h.elim
  | _ :: _, [], h, _ => h.elim
theorem add_len : ∀ {a b : List Int}, a.length = b.length → (add a b).length = b.length
  | [], [], _ => rfl
  | _ :: as, _ :: bs, h => by simp [add, add_len (by simpa using h)]
  | [], _ :: _, h => by simp at h
  | _ :: _, [], h => by simp at h
theorem sub_len : ∀ {a b : List Int}, a.length = b.length → (sub a b).length = b.length
  | [], [], _ => rfl
  | _ :: as, _ :: bs, h => by simp [sub, sub_len (by simpa using h)]
  | [], _ :: _, h => by simp at h
  | _ :: _, [], h => by simp at h
theorem add_comm : ∀ a b : List Int, add a b = add b a
  | [], [] => rfl
  | _ :: as, _ :: bs => by simp only [add, add_comm as bs, Int.add_comm]
  | [], _ :: _ => rfl
  | _ :: _, [] => rfl
theorem add_assoc : ∀ a b c : List Int, add (add a b) c = add a (add b c)
  | a :: as, b :: bs, c :: cs => by simp only [add, add_assoc as bs cs, Int.add_assoc]
  | [], _, _ => by simp [add]
  | _ :: _, [], _ => by simp [add]
  | _ :: _, _ :: _, [] => by simp [add]
theorem Nn.add : ∀ {a b : List Int}, Nn a → Nn b → Nn (add a b)
  | a :: as, b :: bs, h, k => ⟨by have := h.1; have := k.1; omega, Nn.add h.2 k.2⟩
  | [], _, _, _ => by simp [K26.add, Nn]
  | _ :: _, [], _, _ => by simp [K26.add, Nn]
/-- a + d ≤ b exactly if d ≤ b - a -/
theorem le_sub_iff : ∀ {a d b : List Int}, a.length = d.length → d.length = b.length → (Le (add a d) b ↔ Le d (sub b a))
  | [], [], [], _, _ => Iff.rfl
  | _ :: as, _ :: ds, _ :: bs, h, k => by
    have ih := le_sub_iff (a := as) (d := ds) (b := bs) (by simpa using h) (by simpa using k)
    simp only [Le, add, sub, ih]
    constructor <;> rintro ⟨x, y⟩ <;> exact ⟨by omega, y⟩
  | [], _ :: _, _, h, _ => by simp at h
  | _ :: _, [], _, h, _ => by simp at h
  | [], [], _ :: _, _, k => by simp at k
  | _ :: _, _ :: _, [], _, k => by simp at k
/-- d - b ≤ a exactly if d ≤ b + a -/
theorem sub_le_iff : ∀ {a d b : List Int}, a.length = d.length → d.length = b.length → (Le (sub d b) a ↔ Le d (add b a))
  | [], [], [], _, _ => Iff.rfl
  | _ :: as, _ :: ds, _ :: bs, h, k => by
    have ih := sub_le_iff (a := as) (d := ds) (b := bs) (by simpa using h) (by simpa using k)
    simp only [Le, add, sub, ih]
    constructor <;> rintro ⟨x, y⟩ <;> exact ⟨by omega, y⟩
  | [], _ :: _, _, h, _ => by simp at h
  | _ :: _, [], _, h, _ => by simp at h
  | [], [], _ :: _, _, k => by simp at k
  | _ :: _, _ :: _, [], _, k => by simp at k
theorem Le.add : ∀ {a b c d : List Int}, Le a b → Le c d → Le (add a c) (add b d)
  | [], [], _, _, _, _ => by simp [K26.add, Le]
  | _ :: _, _ :: _, [], [], _, _ => by simp [K26.add, Le]
  | _ :: _, _ :: _, _ :: _, _ :: _, h, k => ⟨by have := h.1; have := k.1; omega, Le.add h.2 k.2⟩
  | [], _ :: _, _, _, h, _ => h.elim
  | _ :: _, [], _, _, h, _ => h.elim
  | _ :: _, _ :: _, [], _ :: _, _, k => k.elim
  | _ :: _, _ :: _, _ :: _, [], _, k => k.elim
theorem le_add_right : ∀ {a b : List Int}, a.length = b.length → Nn b → Le a (K26.add a b)
  | [], [], _, _ => trivial
  | _ :: _, _ :: _, h, k => ⟨by have := k.1; omega, le_add_right (by simpa using h) k.2⟩
  | [], _ :: _, h, _ => by simp at h
  | _ :: _, [], h, _ => by simp at h
theorem add_sub_cancel : ∀ {a b : List Int}, a.length = b.length → K26.sub (K26.add a b) a = b
  | [], [], _ => rfl
  | a :: _, b :: _, h => by
    simp only [K26.add, K26.sub]
    rw [add_sub_cancel (by simpa using h), show a + b - a = b by omega]
  | [], _ :: _, h => by simp at h
  | _ :: _, [], h => by simp at h
theorem add_sub_of : ∀ {a b : List Int}, a.length = b.length → K26.add a (K26.sub b a) = b
  | [], [], _ => rfl
  | a :: _, b :: _, h => by
    simp only [K26.add, K26.sub]
    rw [add_sub_of (by simpa using h), show a + (b - a) = b by omega]
  | [], _ :: _, h => by simp at h
  | _ :: _, [], h => by simp at h
theorem sub_nn_iff : ∀ {a b : List Int}, a.length = b.length → (Nn (K26.sub b a) ↔ Le a b)
  | [], [], _ => Iff.rfl
  | a :: as, b :: bs, h => by
    simp only [K26.sub, Nn, Le, sub_nn_iff (a := as) (b := bs) (by simpa using h)]
    constructor <;> rintro ⟨x, y⟩ <;> exact ⟨by omega, y⟩
  | [], _ :: _, h => by simp at h
  | _ :: _, [], h => by simp at h

/-! ## stairs -/
theorem sg_len : ∀ {us : List Int} {p : Int} {r : List Int}, us.length = r.length → (sg us p r).length = r.length
  | [], _, [], _ => rfl
  | _ :: us, p, _ :: rs, h => by simp [sg, sg_len (us := us) (r := rs) (by simpa using h)]
  | [], _, _ :: _, h => by simp at h
  | _ :: _, _, [], h => by simp at h
theorem sg_add : ∀ {us : List Int} {p q : Int} {r t : List Int}, r.length = t.length → sg us (p + q) (add r t) = add (sg us p r) (sg us q t)
  | [], _, _, r, t, _ => by simp [sg, add]
  | _ :: _, _, _, [], [], _ => by simp [sg, add]
  | u :: us, p, q, a :: r, b :: t, h => by
    simp only [sg, add]
    have e : u * (p + q) + (a + b) = (u * p + a) + (u * q + b) := by rw [Int.mul_add]; omega
    rw [e, sg_add (us := us) (by simpa using h)]
  | _ :: _, _, _, [], _ :: _, h => by simp at h
  | _ :: _, _, _, _ :: _, [], h => by simp at h
theorem mul_mono {u a b : Int} (hu : 1 ≤ u) (h : a ≤ b) : u * a ≤ u * b := Int.mul_le_mul_of_nonneg_left h (by omega)
theorem mul_nn {u a : Int} (hu : 1 ≤ u) (h : 0 ≤ a) : 0 ≤ u * a := Int.mul_nonneg (by omega) h
theorem sg_mono : ∀ {us : List Int} {p q : Int} {r t : List Int}, Ps us → p ≤ q → Le r t → us.length = r.length → Le (sg us p r) (sg us q t)
  | [], _, _, [], [], _, _, _, _ => trivial
  | u :: us, p, q, a :: r, b :: t, h, hp, hr, hl => by
    have m := mul_mono h.1 hp
    have k := hr.1
    exact ⟨by omega, sg_mono h.2 (by omega) hr.2 (by simpa using hl)⟩
  | _, _, _, [], _ :: _, _, _, h, _ => h.elim
  | _, _, _, _ :: _, [], _, _, h, _ => h.elim
  | [], _, _, _ :: _, _ :: _, _, _, _, h => by simp at h
  | _ :: _, _, _, [], [], _, _, _, h => by simp at h
theorem sg_nn : ∀ {us : List Int} {p : Int} {r : List Int}, Ps us → 0 ≤ p → Nn r → Nn (sg us p r)
  | [], _, _, _, _, _ => by simp [sg, Nn]
  | _ :: _, _, [], _, _, _ => by simp [sg, Nn]
  | u :: us, p, a :: r, h, hp, hr => by
    have m := mul_nn h.1 hp
    have k := hr.1
    exact ⟨by omega, sg_nn h.2 (by omega) hr.2⟩
theorem sg_isSt : ∀ {us : List Int} {p : Int} {r : List Int}, us.length = r.length → Nn r → IsSt us p (sg us p r)
  | [], _, [], _, _ => trivial
  | u :: us, p, a :: r, h, hr => ⟨by have := hr.1; omega, sg_isSt (by simpa using h) hr.2⟩
  | [], _, _ :: _, h, _ => by simp at h
  | _ :: _, _, [], h, _ => by simp at h
theorem rg_sg : ∀ {us : List Int} {p : Int} {r : List Int}, us.length = r.length → rg us p (sg us p r) = r
  | [], _, [], _ => rfl
  | u :: us, p, a :: r, h => by
    simp only [sg, rg]
    rw [rg_sg (by simpa using h), show u * p + a - u * p = a by omega]
  | [], _, _ :: _, h => by simp at h
  | _ :: _, _, [], h => by simp at h
theorem sg_rg : ∀ {us : List Int} {p : Int} {c : List Int}, us.length = c.length → sg us p (rg us p c) = c
  | [], _, [], _ => rfl
  | u :: us, p, a :: c, h => by
    simp only [sg, rg]
    rw [show u * p + (a - u * p) = a by omega, sg_rg (by simpa using h)]
  | [], _, _ :: _, h => by simp at h
  | _ :: _, _, [], h => by simp at h
theorem rg_nn : ∀ {us : List Int} {p : Int} {c : List Int}, IsSt us p c → Nn (rg us p c)
  | [], _, [], _ => trivial
  | u :: us, p, a :: c, h => ⟨by have := h.1; omega, rg_nn h.2⟩
  | [], _, _ :: _, h => h.elim
  | _ :: _, _, [], h => h.elim
theorem rg_len : ∀ {us : List Int} {p : Int} {r : List Int}, us.length = r.length → (rg us p r).length = r.length
  | [], _, [], _ => rfl
  | _ :: us, p, _ :: rs, h => by simp [rg, rg_len (us := us) (r := rs) (by simpa using h)]
  | [], _, _ :: _, h => by simp at h
  | _ :: _, _, [], h => by simp at h
theorem ug_len : ∀ {us : List Int} {p : Int} {r : List Int}, us.length = r.length → (ug us p r).length = r.length
  | [], _, [], _ => rfl
  | _ :: us, p, _ :: rs, h => by simp [ug, ug_len (us := us) (r := rs) (by simpa using h)]
  | [], _, _ :: _, h => by simp at h
  | _ :: _, _, [], h => by simp at h
theorem ug_isSt : ∀ {us : List Int} {p : Int} {d : List Int}, us.length = d.length → IsSt us p (ug us p d)
  | [], _, [], _ => trivial
  | u :: us, p, a :: d, h => ⟨by omega, ug_isSt (by simpa using h)⟩
  | [], _, _ :: _, h => by simp at h
  | _ :: _, _, [], h => by simp at h
theorem IsSt.len : ∀ {us : List Int} {p : Int} {c : List Int}, IsSt us p c → us.length = c.length
  | [], _, [], _ => rfl
  | _ :: _, _, _ :: _, h => by simp [IsSt.len h.2]
  | [], _, _ :: _, h => h.elim
  | _ :: _, _, [], h => h.elim
theorem ug_le_iff : ∀ {us : List Int} {q p : Int} {d s : List Int}, Ps us → q ≤ p → IsSt us p s → d.length = s.length → (Le (ug us q d) s ↔ Le d s)
  | [], _, _, [], [], _, _, _, _ => Iff.rfl
  | u :: us, q, p, a :: d, c :: s, h, hq, hs, hl => by
    have m := mul_mono h.1 hq
    have k := hs.1
    constructor
    · rintro ⟨x, y⟩
      exact ⟨by omega, (ug_le_iff h.2 x hs.2 (by simpa using hl)).mp y⟩
    · rintro ⟨x, y⟩
      have e : max a (u * q) ≤ c := by omega
      exact ⟨e, (ug_le_iff h.2 e hs.2 (by simpa using hl)).mpr y⟩
  | _, _, _, [], _ :: _, _, _, _, h => by simp at h
  | _, _, _, _ :: _, [], _, _, _, h => by simp at h
  | [], _, _, _ :: _, _ :: _, _, _, h, _ => h.elim
  | _ :: _, _, _, [], [], _, _, h, _ => h.elim
theorem dn_len : ∀ {us ds : List Int}, (dn us ds).length = ds.length
  | [], _ => by simp [dn]
  | _ :: _, [] => by simp [dn]
  | _ :: us, _ :: ds => by simp [dn, dn_len (us := us) (ds := ds)]
theorem dn_le : ∀ {us ds : List Int}, Le (dn us ds) ds
  | [], ds => by simp only [dn]; exact Le.refl ds
  | _ :: _, [] => by simp [dn, Le]
  | u :: us, d :: ds => ⟨by omega, dn_le⟩
theorem le_dn : ∀ {us ds : List Int} {u0 p : Int} {s : List Int}, Ps us → us.length + 1 = ds.length → IsSt (u0 :: us) p s → Le s ds → Le s (dn us ds)
  | [], ds, _, _, s, _, _, _, h => by simpa [dn] using h
  | u :: us, d :: ds, u0, p, c :: s, h, hl, hs, hd => by
    have ih := le_dn (us := us) (ds := ds) (u0 := u) (p := c) (s := s) h.2 (by simpa using hl) hs.2 hd.2
    refine ⟨?_, ih⟩
    cases s with
    | nil => exact hs.2.elim
    | cons c1 s1 =>
      cases ed : dn us ds with
      | nil => rw [ed] at ih; exact ih.elim
      | cons x xs =>
        rw [ed] at ih
        have h1 : u * c ≤ x := Int.le_trans hs.2.1 ih.1
        have h2 : c ≤ x / u := by
          rw [Int.le_ediv_iff_mul_le (by have := h.1; omega)]
          rw [Int.mul_comm]
          exact h1
        have h3 := hd.1
        show c ≤ min d ((x :: xs).headD 0 / u)
        simp only [List.headD_cons]
        omega
  | _ :: _, [], _, _, _, _, h, _, _ => by simp at h
  | _ :: _, _ :: _, _, _, [], _, _, h, _ => h.elim
theorem dn_nn : ∀ {us ds : List Int}, Ps us → us.length + 1 = ds.length → Nn ds → Nn (dn us ds)
  | [], ds, _, _, h => by simpa [dn] using h
  | u :: us, d :: ds, h, hl, hn => by
    have ih := dn_nn (us := us) (ds := ds) h.2 (by simpa using hl) hn.2
    refine ⟨?_, ih⟩
    have h1 : 0 ≤ (dn us ds).headD 0 := by
      cases ed : dn us ds with
      | nil => simp
      | cons x xs => rw [ed] at ih; exact ih.1
    have h2 : 0 ≤ (dn us ds).headD 0 / u := Int.ediv_nonneg h1 (by have := h.1; omega)
    have h3 := hn.1
    omega
  | _ :: _, [], _, h, _ => by simp at h
theorem dn_isSt : ∀ {us ds : List Int} {u0 p : Int}, Ps us → us.length + 1 = ds.length → u0 * p ≤ (dn us ds).headD 0 → IsSt (u0 :: us) p (dn us ds)
  | [], [d], u0, p, _, _, h => ⟨by simpa [dn] using h, trivial⟩
  | u :: us, d :: ds, u0, p, h, hl, hp => by
    refine ⟨by simpa [dn] using hp, ?_⟩
    refine dn_isSt h.2 (by simpa using hl) ?_
    have hu : 0 < u := by have := h.1; omega
    have h1 : min d ((dn us ds).headD 0 / u) ≤ (dn us ds).headD 0 / u := by omega
    have h2 := mul_mono h.1 h1
    have h3 : u * ((dn us ds).headD 0 / u) ≤ (dn us ds).headD 0 := Int.mul_ediv_self_le (by omega)
    exact Int.le_trans h2 h3
  | [], [], _, _, _, h, _ => by simp at h
  | [], _ :: _ :: _, _, _, _, h, _ => by simp at h
  | _ :: _, [], _, _, _, h, _ => by simp at h

/-! ## rows by their stairs -/
/-- the stair of a row -/
def st (us r : List Int) : List Int := sg (1 :: us) 0 r
def ro (us c : List Int) : List Int := rg (1 :: us) 0 c
def up (us d : List Int) : List Int := ug (1 :: us) 0 d
def lk (us o s : List Int) : List Int := ro us (up us (sub (st us o) (st us s)))
def isN : List Int → Bool
  | [] => false
  | a :: as => decide (a < 0) || isN as
def rest (us s o : List Int) : Option (List Int) := if isN (sub (st us s) (st us o)) then none else some (ro us (dn us (sub (st us s) (st us o))))
/-- a row of units -/
def Row (us r : List Int) : Prop := r.length = us.length + 1 ∧ Nn r
theorem isN_iff : ∀ {r : List Int}, (isN r = false ↔ Nn r)
  | [] => by simp [isN, Nn]
  | a :: as => by simp [isN, Nn, isN_iff (r := as)]
theorem ps1 {us : List Int} (h : Ps us) : Ps (1 :: us) := ⟨Int.le_refl 1, h⟩
theorem st_len {us r : List Int} (h : r.length = us.length + 1) : (st us r).length = us.length + 1 := by
  unfold st
  rw [sg_len (by simp [h]), h]
theorem st_add {us r t : List Int} (h : r.length = t.length) : st us (add r t) = add (st us r) (st us t) := by
  have e := sg_add (us := 1 :: us) (p := 0) (q := 0) h
  simpa [st] using e
theorem st_isSt {us r : List Int} (h : Row us r) : IsSt (1 :: us) 0 (st us r) := sg_isSt (by simp [h.1]) h.2
theorem st_mono {us r t : List Int} (hu : Ps us) (h : Le r t) (hl : r.length = us.length + 1) : Le (st us r) (st us t) := sg_mono (ps1 hu) (Int.le_refl 0) h (by simp [hl])
theorem st_ro {us c : List Int} (h : c.length = us.length + 1) : st us (ro us c) = c := sg_rg (by simp [h])
theorem ro_st {us r : List Int} (h : r.length = us.length + 1) : ro us (st us r) = r := rg_sg (by simp [h])
theorem ro_row {us c : List Int} (h : IsSt (1 :: us) 0 c) : Row us (ro us c) := by
  have hl := h.len
  refine ⟨?_, rg_nn h⟩
  unfold ro
  rw [rg_len hl, ← hl]
  simp
theorem lk_row {us o s : List Int} (ho : o.length = us.length + 1) (hs : s.length = us.length + 1) : Row us (lk us o s) := by
  refine ro_row (ug_isSt ?_)
  rw [sub_len (by rw [st_len ho, st_len hs]), st_len hs]
  simp
theorem lk_st {us o s : List Int} (ho : o.length = us.length + 1) (hs : s.length = us.length + 1) : st us (lk us o s) = up us (sub (st us o) (st us s)) := by
  refine st_ro ?_
  unfold up
  rw [ug_len (by rw [sub_len (by rw [st_len ho, st_len hs]), st_len hs]; simp), sub_len (by rw [st_len ho, st_len hs]), st_len hs]
/-- what lacks lies within a exactly if the order lies within stock and a -/
theorem lk_le {us o s a : List Int} (hu : Ps us) (ho : o.length = us.length + 1) (hs : s.length = us.length + 1) (ha : Row us a) :
    Le (st us (lk us o s)) (st us a) ↔ Le (st us o) (st us (add s a)) := by
  have h1 := st_len ho
  have h2 := st_len hs
  have h3 := st_len (us := us) ha.1
  rw [lk_st ho hs]
  unfold up
  rw [ug_le_iff (ps1 hu) (Int.le_refl 0) (st_isSt ha) (by rw [sub_len (by omega)]; omega), sub_le_iff (by omega) (by omega), st_add (by have := ha.1; omega)]
/-- n and the order lie within the stock exactly if there is a rest and n lies within it -/
theorem rest_le {us s o n : List Int} (hu : Ps us) (ho : o.length = us.length + 1) (hs : s.length = us.length + 1) (hn : Row us n) :
    Le (st us (add o n)) (st us s) ↔ ∃ x, rest us s o = some x ∧ Le (st us n) (st us x) := by
  have h1 := st_len ho
  have h2 := st_len hs
  have h3 := st_len (us := us) hn.1
  have hl : (sub (st us s) (st us o)).length = us.length + 1 := by rw [sub_len (by omega)]; omega
  rw [st_add (by have := hn.1; omega), le_sub_iff (by omega) (by omega)]
  constructor
  · intro h
    have nn : Nn (sub (st us s) (st us o)) := by
      have k := sg_nn (us := 1 :: us) (p := 0) (ps1 hu) (Int.le_refl 0) hn.2
      have mono : ∀ {a b : List Int}, Nn a → Le a b → Nn b := by
        intro a
        induction a with
        | nil => intro b _ h; cases b with
          | nil => trivial
          | cons _ _ => exact h.elim
        | cons x xs ih => intro b h k; cases b with
          | nil => exact k.elim
          | cons y ys => exact ⟨Int.le_trans h.1 k.1, ih h.2 k.2⟩
      exact mono k h
    refine ⟨ro us (dn us (sub (st us s) (st us o))), ?_, ?_⟩
    · unfold rest
      rw [isN_iff.mpr nn]
      simp
    · rw [st_ro (by rw [dn_len]; exact hl)]
      exact le_dn hu (by omega) (st_isSt hn) h
  · rintro ⟨x, hx, h⟩
    unfold rest at hx
    split at hx
    · cases hx
    · cases hx
      rw [st_ro (by rw [dn_len]; exact hl)] at h
      exact h.trans dn_le
theorem rest_row {us s o x : List Int} (hu : Ps us) (ho : o.length = us.length + 1) (hs : s.length = us.length + 1) (h : rest us s o = some x) : Row us x := by
  have h1 := st_len ho
  have h2 := st_len hs
  have hl : (sub (st us s) (st us o)).length = us.length + 1 := by rw [sub_len (by omega)]; omega
  unfold rest at h
  split at h
  · cases h
  · rename_i hn
    cases h
    have nn := isN_iff.mp (Bool.eq_false_iff.mpr hn)
    refine ro_row (dn_isSt hu (by omega) ?_)
    have k := dn_nn (us := us) hu (by omega) nn
    cases ed : dn us (sub (st us s) (st us o)) with
    | nil => simp
    | cons x xs => rw [ed] at k; have := k.1; simpa using this
/-! ## cuts -/
/-- one cut -/
inductive Cut : List Int → List Int → List Int → Prop
  | here {u : Int} {us : List Int} {x y : Int} {rs : List Int} : 0 < x → Cut (u :: us) (x :: y :: rs) ((x - 1) :: (y + u) :: rs)
  | there {u : Int} {us : List Int} {x : Int} {rs rs' : List Int} : Cut us rs rs' → Cut (u :: us) (x :: rs) (x :: rs')
inductive Reach (us : List Int) : List Int → List Int → Prop
  | refl (r : List Int) : Reach us r r
  | step {r r' r'' : List Int} : Reach us r r' → Cut us r' r'' → Reach us r r''
theorem Reach.trans {us a b c : List Int} (h : Reach us a b) (k : Reach us b c) : Reach us a c := by
  induction k with
  | refl => exact h
  | step _ s ih => exact .step ih s
theorem Reach.there {us rs rs' : List Int} (u x : Int) (h : Reach us rs rs') : Reach (u :: us) (x :: rs) (x :: rs') := by
  induction h with
  | refl => exact .refl _
  | step _ s ih => exact .step ih (.there s)
def lst : List Int → Int
  | [] => 0
  | [a] => a
  | _ :: b :: as => lst (b :: as)
/-- n cuts of the first unit -/
theorem reach_here {u : Int} {us : List Int} : ∀ (n : Nat) {x y : Int} {rs : List Int}, (n : Int) ≤ x → Reach (u :: us) (x :: y :: rs) ((x - n) :: (y + u * n) :: rs)
  | 0, x, y, rs, _ => by simpa using Reach.refl _
  | n + 1, x, y, rs, h => by
    have ih := reach_here (u := u) (us := us) n (x := x) (y := y) (rs := rs) (by omega)
    have s := ih.step (.here (by omega : 0 < x - n))
    have e1 : x - ((n + 1 : Nat) : Int) = x - n - 1 := by omega
    have e2 : y + u * ((n + 1 : Nat) : Int) = y + u * n + u := by
      rw [show ((n + 1 : Nat) : Int) = (n : Int) + 1 by omega, Int.mul_add]
      omega
    rw [e1, e2]
    exact s
theorem reach_go : ∀ (us : List Int) (u0 p : Int) (r t : List Int), r.length = us.length + 1 → t.length = us.length + 1 → Ps us → Nn t →
    Le (sg (u0 :: us) p t) (sg (u0 :: us) p r) → lst (sg (u0 :: us) p t) = lst (sg (u0 :: us) p r) → Reach us r t
  | [], u0, p, [x], [y], _, _, _, _, h, e => by
    simp only [sg, lst] at e
    have : x = y := by omega
    subst this
    exact .refl _
  | u :: us, u0, p, x :: x1 :: rs, y :: y1 :: ts, hl, hm, hu, hn, h, e => by
    have h1 : y ≤ x := by have := h.1; omega
    have e3 : u * (u0 * p + x) + x1 = u * (u0 * p + y) + (x1 + u * (x - y)) := by
      rw [Int.mul_add, Int.mul_add, Int.mul_sub]
      omega
    have c := reach_here (u := u) (us := us) (x - y).toNat (x := x) (y := x1) (rs := rs) (by have := hn.1; omega)
    have e1 : (((x - y).toNat : Nat) : Int) = x - y := by omega
    rw [e1, show x - (x - y) = y by omega] at c
    have eq : sg (u :: us) (u0 * p + x) (x1 :: rs) = sg (u :: us) (u0 * p + y) ((x1 + u * (x - y)) :: rs) := by
      simp only [sg]
      rw [e3]
    have e' : lst (sg (u :: us) (u0 * p + y) (y1 :: ts)) = lst (sg (u :: us) (u0 * p + x) (x1 :: rs)) := e
    have h' : Le (sg (u :: us) (u0 * p + y) (y1 :: ts)) (sg (u :: us) (u0 * p + x) (x1 :: rs)) := h.2
    rw [eq] at e' h'
    exact c.trans (Reach.there u y (reach_go us u (u0 * p + y) _ _ (by simpa using hl) (by simpa using hm) hu.2 hn.2 h' e'))
  | [], _, _, [], _, h, _, _, _, _, _ => by simp at h
  | [], _, _, _ :: _ :: _, _, h, _, _, _, _, _ => by simp at h
  | [], _, _, [_], [], _, h, _, _, _, _ => by simp at h
  | [], _, _, [_], _ :: _ :: _, _, h, _, _, _, _ => by simp at h
  | _ :: _, _, _, [], _, h, _, _, _, _, _ => by simp at h
  | _ :: _, _, _, [_], _, h, _, _, _, _, _ => by simp at h
  | _ :: _, _, _, _ :: _ :: _, [], _, h, _, _, _, _ => by simp at h
  | _ :: _, _, _, _ :: _ :: _, [_], _, h, _, _, _, _ => by simp at h
theorem cut_nn : ∀ {us r t : List Int}, Cut us r t → Ps us → Nn r → Nn t := by
  intro us r t h
  induction h with
  | here hx => intro hu hn; exact ⟨by omega, by have := hn.2.1; have := hu.1; omega, hn.2.2⟩
  | there _ ih => intro hu hn; exact ⟨hn.1, ih hu.2 hn.2⟩
theorem cut_len : ∀ {us r t : List Int}, Cut us r t → t.length = r.length := by
  intro us r t h
  induction h with
  | here hx => simp
  | there _ ih => simp [ih]
theorem cut_st : ∀ {us r t : List Int}, Cut us r t → ∀ (u0 p : Int), Ps us → r.length = us.length + 1 → Le (sg (u0 :: us) p t) (sg (u0 :: us) p r) ∧ lst (sg (u0 :: us) p t) = lst (sg (u0 :: us) p r) := by
  intro us r t h
  induction h with
  | @here u us x y rs hx =>
    intro u0 p hu hl
    have e : u * (u0 * p + (x - 1)) + (y + u) = u * (u0 * p + x) + y := by
      rw [show u0 * p + (x - 1) = u0 * p + x - 1 by omega, Int.mul_sub]
      omega
    simp only [sg, e]
    refine ⟨⟨by omega, Int.le_refl _, Le.refl _⟩, ?_⟩
    simp [lst]
  | @there u us x rs rs' c ih =>
    intro u0 p hu hl
    obtain ⟨h1, h2⟩ := ih u (u0 * p + x) hu.2 (by simpa using hl)
    refine ⟨⟨Int.le_refl _, h1⟩, ?_⟩
    have l1 := cut_len c
    cases rs with
    | nil => simp at hl
    | cons a as =>
      cases rs' with
      | nil => simp at l1
      | cons b bs =>
        simp only [sg, lst] at h2 ⊢
        exact h2
theorem reach_st {us r t : List Int} (h : Reach us r t) (hu : Ps us) (hr : Row us r) : Row us t ∧ Le (st us t) (st us r) ∧ lst (st us t) = lst (st us r) := by
  induction h with
  | refl => exact ⟨hr, Le.refl _, rfl⟩
  | step _ c ih =>
    obtain ⟨h1, h2, h3⟩ := ih
    have k := cut_st c 1 0 hu h1.1
    exact ⟨⟨(cut_len c).trans h1.1, cut_nn c hu h1.2⟩, k.1.trans h2, k.2.trans h3⟩
/-- d least pieces more -/
def bump : List Int → Int → List Int
  | [], _ => []
  | [a], d => [a + d]
  | a :: b :: as, d => a :: bump (b :: as) d
theorem bump_le : ∀ {r : List Int} {d : Int}, 0 ≤ d → Le r (bump r d)
  | [], _, _ => trivial
  | [a], d, h => ⟨by omega, trivial⟩
  | a :: b :: as, d, h => ⟨Int.le_refl a, bump_le h⟩
theorem bump_len : ∀ {r : List Int} {d : Int}, (bump r d).length = r.length
  | [], _ => rfl
  | [_], _ => rfl
  | _ :: b :: as, d => by simp [bump, bump_len (r := b :: as)]
theorem Nn.mono : ∀ {a b : List Int}, Nn a → Le a b → Nn b
  | [], [], _, _ => trivial
  | _ :: _, _ :: _, h, k => ⟨Int.le_trans h.1 k.1, Nn.mono h.2 k.2⟩
  | [], _ :: _, _, k => k.elim
  | _ :: _, [], _, k => k.elim
theorem sg_bump : ∀ {us : List Int} {p : Int} {r : List Int} {d : Int}, us.length = r.length → sg us p (bump r d) = bump (sg us p r) d
  | [], _, [], _, _ => rfl
  | [u], p, [a], d, _ => by simp only [bump, sg]; rw [Int.add_assoc]
  | u :: v :: us, p, a :: b :: r, d, h => by
    have ih := sg_bump (us := v :: us) (p := u * p + a) (r := b :: r) (d := d) (by simpa using h)
    show (u * p + a) :: sg (v :: us) (u * p + a) (bump (b :: r) d) = _
    rw [ih]
    rfl
  | [], _, _ :: _, _, h => by simp at h
  | _ :: _, _, [], _, h => by simp at h
  | [_], _, _ :: _ :: _, _, h => by simp at h
  | _ :: _ :: _, _, [_], _, h => by simp at h
theorem le_bump : ∀ {a b : List Int}, Le a b → Le (bump a (lst b - lst a)) b ∧ lst (bump a (lst b - lst a)) = lst b
  | [], [], _ => ⟨trivial, rfl⟩
  | [a], [b], _ => by
    simp only [lst, bump]
    exact ⟨⟨by omega, trivial⟩, by omega⟩
  | a :: a1 :: as, b :: b1 :: bs, h => by
    have ih := le_bump (a := a1 :: as) (b := b1 :: bs) h.2
    refine ⟨⟨h.1, ih.1⟩, ?_⟩
    have q := ih.2
    have l : (bump (a1 :: as) (lst (b1 :: bs) - lst (a1 :: as))) ≠ [] := by
      intro z
      have y := congrArg List.length z
      rw [bump_len] at y
      simp at y
    show lst (a :: bump (a1 :: as) (lst (b1 :: bs) - lst (a1 :: as))) = lst (b1 :: bs)
    cases ed : bump (a1 :: as) (lst (b1 :: bs) - lst (a1 :: as)) with
    | nil => exact absurd ed l
    | cons x xs => rw [ed] at q; exact q
  | [], _ :: _, h => h.elim
  | _ :: _, [], h => h.elim
  | [_], _ :: _ :: _, h => h.2.elim
  | _ :: _ :: _, [_], h => h.2.elim
theorem le_lst : ∀ {a b : List Int}, Le a b → lst a ≤ lst b
  | [], [], _ => Int.le_refl _
  | [a], [b], h => h.1
  | a :: a1 :: as, b :: b1 :: bs, h => le_lst (a := a1 :: as) (b := b1 :: bs) h.2
  | [], _ :: _, h => h.elim
  | _ :: _, [], h => h.elim
  | [_], _ :: _ :: _, h => h.2.elim
  | _ :: _ :: _, [_], h => h.2.elim
/-- a stock serves an order by cuts exactly if the order lies within it -/
theorem serves_iff {us r o : List Int} (hu : Ps us) (hr : Row us r) (ho : Row us o) : (∃ t, Reach us r t ∧ Le o t) ↔ Le (st us o) (st us r) := by
  constructor
  · rintro ⟨t, h, k⟩
    exact (st_mono hu k ho.1).trans (reach_st h hu hr).2.1
  · intro h
    have b := le_bump h
    have nn : 0 ≤ lst (st us r) - lst (st us o) := by have := le_lst h; omega
    have k : Le o (bump o (lst (st us r) - lst (st us o))) := bump_le nn
    refine ⟨_, ?_, k⟩
    have e : st us (bump o (lst (st us r) - lst (st us o))) = bump (st us o) (lst (st us r) - lst (st us o)) := sg_bump (by simp [ho.1])
    refine reach_go us 1 0 r _ hr.1 (by rw [bump_len]; exact ho.1) hu (ho.2.mono k) ?_ ?_
    · have q := b.1
      rw [← e] at q
      exact q
    · have q := b.2
      rw [← e] at q
      exact q
end K26
set_option linter.all false
namespace K26
/-! ## trees of yards -/
inductive Tr where
  | nd (s a : List Int) (un : List Tr)
mutual
/-- what a yard lacks -/
def need (us : List Int) : Tr → List Int
  | .nd s a un => lk us (asked us a un) s
/-- asks and the needs of yards, side by side -/
def asked (us : List Int) (acc : List Int) : List Tr → List Int
  | [] => acc
  | c :: cs => asked us (add acc (need us c)) cs
end
/-- .. but that of the i-th one -/
def askedBut (us : List Int) : Nat → List Int → List Tr → List Int
  | _, acc, [] => acc
  | 0, acc, _ :: cs => asked us acc cs
  | i + 1, acc, c :: cs => askedBut us i (add acc (need us c)) cs
mutual
def Good (us : List Int) : Tr → Prop
  | .nd s a un => Row us s ∧ Row us a ∧ GoodAll us un
def GoodAll (us : List Int) : List Tr → Prop
  | [] => True
  | c :: cs => Good us c ∧ GoodAll us cs
end
/-- the yard with a path -/
def sub? : List Nat → Tr → Option Tr
  | [], t => some t
  | i :: p, .nd _ _ un => match un[i]? with
    | none => none
    | some c => sub? p c
def chg : List Tr → Nat → (Tr → Tr) → List Tr
  | [], _, _ => []
  | c :: cs, 0, f => f c :: cs
  | c :: cs, i + 1, f => c :: chg cs i f
/-- a row beside the stock of the yard with a path -/
def stk (r : List Int) : List Nat → Tr → Tr
  | [], .nd s a un => .nd (add s r) a un
  | i :: p, .nd s a un => .nd s a (chg un i (stk r p))
/-- the greatest row that a yard could be sent -/
def hd (us : List Int) : List Nat → Tr → List Int → Option (List Int)
  | [], _, row => some row
  | i :: p, .nd s a un, row => match un[i]? with
    | none => none
    | some c => match rest us (add s row) (askedBut us i a un) with
      | none => none
      | some x => hd us p c x
def zer (us : List Int) : List Int := List.replicate (us.length + 1) 0
/-- the least row more at a yard -/
def least (us : List Int) (p : List Nat) (t : Tr) : Option (List Int) :=
  match sub? p t, hd us p t (zer us) with
  | some (.nd s a un), some row => some (lk us (asked us a un) (add s row))
  | _, _ => none

theorem need_row {us : List Int} : ∀ {t : Tr}, Good us t → Row us (need us t) ∧ True := by
  intro t
  refine Tr.rec (motive_1 := fun t => Good us t → Row us (need us t) ∧ True) (motive_2 := fun cs => GoodAll us cs → ∀ acc, Row us acc → Row us (asked us acc cs)) ?_ ?_ ?_ t
  · intro s a un ih h
    simp only [Good] at h
    simp only [need]
    exact ⟨lk_row (ih h.2.2 a h.2.1).1 h.1.1, trivial⟩
  · intro _ acc h
    simpa [asked] using h
  · intro c cs ih1 ih2 h acc ha
    simp only [GoodAll] at h
    simp only [asked]
    have q := (ih1 h.1).1
    exact ih2 h.2 _ ⟨by rw [add_len (by rw [ha.1, q.1]), q.1], ha.2.add q.2⟩
theorem Row.add {us a b : List Int} (h : Row us a) (k : Row us b) : Row us (add a b) := ⟨by rw [add_len (by rw [h.1, k.1]), k.1], h.2.add k.2⟩
theorem asked_row {us : List Int} : ∀ {cs : List Tr} {acc : List Int}, GoodAll us cs → Row us acc → Row us (asked us acc cs)
  | [], acc, _, h => by simpa [asked] using h
  | c :: cs, acc, h, ha => by
    simp only [GoodAll] at h
    simp only [asked]
    exact asked_row h.2 (ha.add (need_row h.1).1)
theorem zer_row (us : List Int) : Row us (zer us) := by
  refine ⟨by simp [zer], ?_⟩
  unfold zer
  generalize us.length + 1 = n
  induction n with
  | zero => simp [Nn]
  | succ n ih => exact ⟨Int.le_refl 0, ih⟩
theorem sg_zero : ∀ (vs : List Int), sg vs 0 (List.replicate vs.length 0) = List.replicate vs.length 0
  | [] => rfl
  | v :: vs => by simp only [List.length_cons, List.replicate_succ, sg, Int.mul_zero, Int.add_zero, sg_zero vs]
theorem rep_le : ∀ {x : List Int}, Nn x → Le (List.replicate x.length 0) x
  | [], _ => trivial
  | _ :: xs, h => ⟨h.1, rep_le h.2⟩
theorem st_zer (us : List Int) : st us (zer us) = List.replicate (us.length + 1) 0 := by
  have h := sg_zero (1 :: us)
  simpa [st, zer] using h
theorem le_zer {us r : List Int} (hu : Ps us) (h : Row us r) : Le (st us r) (st us (zer us)) ↔ r = zer us := by
  constructor
  · intro k
    have z := zer_row us
    have e : st us r = st us (zer us) := by
      refine Le.antisymm k ?_
      rw [st_zer, ← st_len h.1]
      exact rep_le (sg_nn (ps1 hu) (Int.le_refl 0) h.2)
    have e2 := congrArg (ro us) e
    rwa [ro_st h.1, ro_st z.1] at e2
  · intro e
    rw [e]
    exact Le.refl _
theorem need_le {us s a x : List Int} {un : List Tr} (hu : Ps us) (h : Good us (.nd s a un)) (hx : Row us x) : Le (st us (need us (.nd s a un))) (st us x) ↔ Le (st us (asked us a un)) (st us (add s x)) := by
  simp only [Good] at h
  simp only [need]
  exact lk_le hu (asked_row h.2.2 h.2.1).1 h.1.1 hx
theorem asked_acc {us : List Int} : ∀ {cs : List Tr} {a b : List Int}, asked us (add a b) cs = add a (asked us b cs)
  | [], a, b => by simp [asked]
  | c :: cs, a, b => by
    simp only [asked]
    rw [add_assoc, asked_acc]
theorem askedBut_acc {us : List Int} : ∀ {cs : List Tr} {i : Nat} {a b : List Int}, askedBut us i (add a b) cs = add a (askedBut us i b cs)
  | [], _, a, b => by simp [askedBut]
  | c :: cs, 0, a, b => by
    simp only [askedBut]
    rw [asked_acc]
  | c :: cs, i + 1, a, b => by
    simp only [askedBut]
    rw [add_assoc, askedBut_acc]
theorem askedBut_row {us : List Int} : ∀ {cs : List Tr} {i : Nat} {acc : List Int}, GoodAll us cs → Row us acc → Row us (askedBut us i acc cs)
  | [], _, acc, _, h => by simpa [askedBut] using h
  | c :: cs, 0, acc, h, ha => by
    simp only [GoodAll] at h
    simp only [askedBut]
    exact asked_row h.2 ha
  | c :: cs, i + 1, acc, h, ha => by
    simp only [GoodAll] at h
    simp only [askedBut]
    exact askedBut_row h.2 (ha.add (need_row h.1).1)
/-- the asks with one yard changed -/
theorem asked_chg {us : List Int} {f : Tr → Tr} : ∀ {cs : List Tr} {i : Nat} {c : Tr} {acc : List Int}, cs[i]? = some c → asked us acc (chg cs i f) = add (askedBut us i acc cs) (need us (f c))
  | [], _, _, _, h => by simp at h
  | c :: cs, 0, d, acc, h => by
    simp only [List.getElem?_cons_zero, Option.some.injEq] at h
    subst h
    simp only [chg, asked, askedBut]
    rw [add_comm acc, asked_acc, add_comm]
  | c :: cs, i + 1, d, acc, h => by
    simp only [List.getElem?_cons_succ] at h
    simp only [chg, asked, askedBut]
    exact asked_chg h
theorem goodAll_get {us : List Int} : ∀ {cs : List Tr} {i : Nat} {c : Tr}, GoodAll us cs → cs[i]? = some c → Good us c
  | [], _, _, _, h => by simp at h
  | c :: cs, 0, d, hg, h => by
    simp only [List.getElem?_cons_zero, Option.some.injEq] at h
    subst h
    simp only [GoodAll] at hg
    exact hg.1
  | c :: cs, i + 1, d, hg, h => by
    simp only [List.getElem?_cons_succ] at h
    simp only [GoodAll] at hg
    exact goodAll_get hg.2 h
theorem goodAll_chg {us : List Int} {f : Tr → Tr} : ∀ {cs : List Tr} {i : Nat}, GoodAll us cs → (∀ c, cs[i]? = some c → Good us (f c)) → GoodAll us (chg cs i f)
  | [], _, _, _ => by simp [chg, GoodAll]
  | c :: cs, 0, hg, h => by
    simp only [GoodAll] at hg
    simp only [chg, GoodAll]
    exact ⟨h c rfl, hg.2⟩
  | c :: cs, i + 1, hg, h => by
    simp only [GoodAll] at hg
    simp only [chg, GoodAll]
    exact ⟨hg.1, goodAll_chg hg.2 fun d hd => h d (by simpa using hd)⟩
theorem stk_good {us r : List Int} (hr : Row us r) : ∀ {p : List Nat} {t : Tr}, Good us t → Good us (stk r p t)
  | [], .nd s a un, h => by
    simp only [Good] at h
    simp only [stk, Good]
    exact ⟨h.1.add hr, h.2⟩
  | i :: p, .nd s a un, h => by
    simp only [Good] at h
    simp only [stk, Good]
    exact ⟨h.1, h.2.1, goodAll_chg h.2.2 fun c hc => stk_good hr (goodAll_get h.2.2 hc)⟩
theorem hd_row {us : List Int} (hu : Ps us) : ∀ {p : List Nat} {t : Tr} {a x : List Int}, Good us t → Row us a → hd us p t a = some x → Row us x
  | [], _, a, x, _, ha, h => by
    simp only [hd, Option.some.injEq] at h
    rwa [← h]
  | i :: p, .nd s k un, a, x, hg, ha, h => by
    simp only [Good] at hg
    simp only [hd] at h
    split at h
    · cases h
    · rename_i c hc
      split at h
      · cases h
      · rename_i y hy
        exact hd_row hu (goodAll_get hg.2.2 hc) (rest_row hu (askedBut_row hg.2.2 hg.2.1).1 (hg.1.add ha).1 hy) h
/-- a tree with a row beside the stock of a yard is served by what is sent exactly if .. -/
theorem stk_le {us r : List Int} (hu : Ps us) (hr : Row us r) : ∀ {p : List Nat} {t t' : Tr} {a : List Int}, Good us t → Row us a → sub? p t = some t' →
    (Le (st us (need us (stk r p t))) (st us a) ↔ ∃ x s' a' un', t' = .nd s' a' un' ∧ hd us p t a = some x ∧ Le (st us (lk us (asked us a' un') (add s' x))) (st us r))
  | [], .nd s k un, t', a, hg, ha, h => by
    simp only [sub?, Option.some.injEq] at h
    subst h
    have hg' := hg
    simp only [Good] at hg
    have hq := asked_row hg.2.2 hg.2.1
    simp only [stk]
    rw [need_le hu (by simp only [Good]; exact ⟨hg.1.add hr, hg.2⟩) ha]
    constructor
    · intro q
      refine ⟨a, s, k, un, rfl, rfl, ?_⟩
      rw [lk_le hu hq.1 (hg.1.add ha).1 hr]
      rwa [add_assoc, add_comm a r, ← add_assoc]
    · rintro ⟨x, s', a', un', e, e2, q⟩
      cases e
      simp only [hd, Option.some.injEq] at e2
      subst e2
      rw [lk_le hu hq.1 (hg.1.add ha).1 hr] at q
      rwa [add_assoc, add_comm r a, ← add_assoc]
  | i :: p, .nd s k un, t', a, hg, ha, h => by
    have hg' := hg
    simp only [Good] at hg
    simp only [sub?] at h
    split at h
    · cases h
    · rename_i c hc
      have gc := goodAll_get hg.2.2 hc
      have gs := stk_good hr (p := p) gc
      have bt := askedBut_row (i := i) hg.2.2 hg.2.1
      have sa := hg.1.add ha
      simp only [stk]
      rw [need_le hu (by simp only [Good]; exact ⟨hg.1, hg.2.1, goodAll_chg hg.2.2 fun c' hc' => stk_good hr (goodAll_get hg.2.2 hc')⟩) ha, asked_chg hc, rest_le hu bt.1 sa.1 (need_row gs).1]
      simp only [hd, hc]
      constructor
      · rintro ⟨x, e, q⟩
        have ih := (stk_le hu hr gc (rest_row hu bt.1 sa.1 e) h).mp q
        obtain ⟨y, s', a', un', e1, e2, e3⟩ := ih
        exact ⟨y, s', a', un', e1, by rw [e]; exact e2, e3⟩
      · rintro ⟨y, s', a', un', e1, e2, e3⟩
        split at e2
        · cases e2
        · rename_i x e
          exact ⟨x, e, (stk_le hu hr gc (rest_row hu bt.1 sa.1 e) h).mpr ⟨y, s', a', un', e1, e2, e3⟩⟩
theorem least_iff {us r : List Int} (hu : Ps us) (hr : Row us r) {p : List Nat} {t t' : Tr} (hg : Good us t) (h : sub? p t = some t') :
    need us (stk r p t) = zer us ↔ ∃ l, least us p t = some l ∧ Le (st us l) (st us r) := by
  rw [← le_zer hu (need_row (stk_good hr hg)).1, stk_le hu hr hg (zer_row us) h]
  unfold least
  rw [h]
  constructor
  · rintro ⟨x, s', a', un', rfl, e2, e3⟩
    rw [e2]
    exact ⟨_, rfl, e3⟩
  · rintro ⟨l, e1, e2⟩
    cases t' with
    | nd s' a' un' =>
      cases e : hd us p t (zer us) with
      | none => rw [e] at e1; cases e1
      | some x =>
        rw [e] at e1
        cases e1
        exact ⟨x, s', a', un', rfl, rfl, e2⟩

/-! ## sharing out -/
/-- what is left can be shared out to yards -/
def Shr (us : List Int) : List Tr → List Int → Prop
  | [], _ => True
  | c :: cs, l => ∃ q, Nn q ∧ Le q l ∧ Le (st us (need us c)) (st us q) ∧ Shr us cs (sub l q)
theorem Le.rlen {us a b : List Int} (h : Le a b) (k : b.length = us.length + 1) : a.length = us.length + 1 := h.len.trans k
theorem shr_of {us : List Int} : ∀ {cs : List Tr} {l : List Int}, GoodAll us cs → Row us l → Le (asked us (zer us) cs) l → Shr us cs l
  | [], _, _, _, _ => trivial
  | c :: cs, l, hg, hl, h => by
    simp only [GoodAll] at hg
    have nc := (need_row hg.1).1
    have e : asked us (zer us) (c :: cs) = add (need us c) (asked us (zer us) cs) := by
      simp only [asked]
      rw [add_comm, asked_acc]
    rw [e] at h
    have rs := asked_row hg.2 (zer_row us)
    have h1 : Le (need us c) l := (le_add_right (by rw [nc.1, rs.1]) rs.2).trans h
    refine ⟨need us c, nc.2, h1, Le.refl _, ?_⟩
    have ll : l.length = (need us c).length := h1.len.symm
    refine shr_of hg.2 ⟨by rw [sub_len ll, ← ll, hl.1], (sub_nn_iff ll.symm).mpr h1⟩ ?_
    exact (le_sub_iff (by rw [nc.1, rs.1]) (by rw [rs.1, hl.1])).mp h
theorem of_shr {us : List Int} (hu : Ps us) : ∀ {cs : List Tr} {l : List Int}, GoodAll us cs → Row us l → Shr us cs l → Le (st us (asked us (zer us) cs)) (st us l)
  | [], l, _, hl, _ => by
    simp only [asked]
    rw [st_zer, ← st_len hl.1]
    exact rep_le (sg_nn (ps1 hu) (Int.le_refl 0) hl.2)
  | c :: cs, l, hg, hl, h => by
    simp only [GoodAll] at hg
    obtain ⟨q, hq, h1, h2, h3⟩ := h
    have nc := (need_row hg.1).1
    have e : asked us (zer us) (c :: cs) = add (need us c) (asked us (zer us) cs) := by
      simp only [asked]
      rw [add_comm, asked_acc]
    have rs := asked_row hg.2 (zer_row us)
    have ql : q.length = us.length + 1 := h1.len.trans hl.1
    have ih := of_shr hu hg.2 ⟨by rw [sub_len h1.len.symm, ql], (sub_nn_iff h1.len).mpr h1⟩ h3
    rw [e, st_add (by rw [nc.1, rs.1])]
    have k : add (st us q) (st us (sub l q)) = st us l := by
      rw [← st_add (by rw [sub_len h1.len.symm]), add_sub_of h1.len]
    rw [← k]
    exact h2.add ih
/-- THE WAY: what is sent serves a tree exactly if some cutting leaves what can be shared out -/
theorem way_iff {us s a x : List Int} {un : List Tr} (hu : Ps us) (hg : Good us (.nd s a un)) (hx : Row us x) :
    Le (st us (need us (.nd s a un))) (st us x) ↔ ∃ t, Reach us (add s x) t ∧ Le a t ∧ Shr us un (sub t a) := by
  rw [need_le hu hg hx]
  simp only [Good] at hg
  have sx := hg.1.add hx
  have rs := asked_row hg.2.2 (zer_row us)
  have ra := hg.2.1
  have za : add a (zer us) = a := by
    have z : ∀ (l : List Int) (n : Nat), l.length = n → add l (List.replicate n 0) = l := by
      intro l
      induction l with
      | nil => intro n h; cases n <;> simp [add]
      | cons y ys ih => intro n h; cases n with
        | zero => simp at h
        | succ n => simp only [List.replicate_succ, add, Int.add_zero, ih n (by simpa using h)]
    exact z a _ ra.1
  have e : asked us a un = add a (asked us (zer us) un) := by
    have q := asked_acc (us := us) (cs := un) (a := a) (b := zer us)
    rwa [za] at q
  rw [e]
  constructor
  · intro h
    obtain ⟨t, h1, h2⟩ := (serves_iff hu sx (ra.add rs)).mpr h
    have rt := (reach_st h1 hu sx).1
    have h3 : Le a t := (le_add_right (by rw [ra.1, rs.1]) rs.2).trans h2
    refine ⟨t, h1, h3, shr_of hg.2.2 ⟨by rw [sub_len (by rw [rt.1, ra.1]), ra.1], (sub_nn_iff h3.len).mpr h3⟩ ?_⟩
    exact (le_sub_iff (by rw [ra.1, rs.1]) (by rw [rs.1, rt.1])).mp h2
  · rintro ⟨t, h1, h2, h3⟩
    obtain ⟨rt, h4, _⟩ := reach_st h1 hu sx
    refine Le.trans ?_ h4
    have rl : Row us (sub t a) := ⟨by rw [sub_len (by rw [rt.1, ra.1]), ra.1], (sub_nn_iff h2.len).mpr h2⟩
    have q := of_shr hu hg.2.2 rl h3
    have k : add (st us a) (st us (sub t a)) = st us t := by
      rw [← st_add (by rw [sub_len (by rw [rt.1, ra.1])]), add_sub_of h2.len]
    rw [st_add (by rw [ra.1, rs.1]), ← k]
    exact (Le.refl _).add q
end K26
set_option Elab.async false
set_option linter.all false
set_option maxRecDepth 100000
set_option maxHeartbeats 4000000
namespace K26
open PySem PySem.Spec PyProof.Rows L2

/-! ## the text -/
def top (i : Nat) : Stmt := PySem.Challenge.pw_stairyard_k26_whole_least_stock_more.main.body.getD i (.Pass ⟨0, 0, 0, 0⟩)
/-- the def st, named x, stands at f -/
abbrev FnP (K : PySem.W.Frag) (x : Str) (st : Stmt) (f : Addr) (fd : FuncData) : Prop := FunD K x x (defArgs st) (defBody st) (defScope st) [] [] f fd
/-- a def that may be called by its name -/
structure Cal (P : Program) (w : World) (K : PySem.W.Frag) (mg : Str → Option Value) (base : Heap) (CX : CXT) (k : Nat) (x : Str) (ps : List Str) (sp : Sp) : Prop where
  ex : ∃ f fd, FnOk P w K mg base CX k f fd ps sp ∧ mg x = some (.ref f) ∧ PySem.W.keepIn K (.ref f) = true ∧ Binds K fd ps []
/-- the built-ins' names are free -/
structure Bi (mg : Str → Option Value) : Prop where
  len : mg "len" = none
  tuple : mg "tuple" = none
  list : mg "list" = none
  int : mg "int" = none
  bool : mg "bool" = none
  isinstance : mg "isinstance" = none
  min : mg "min" = none
  max : mg "max" = none
  zip : mg "zip" = none
  range : mg "range" = none
  enumerate : mg "enumerate" = none
  reversed : mg "reversed" = none
  sum : mg "sum" = none
  sorted : mg "sorted" = none
  repr : mg "repr" = none
section
variable {X : Cx} {CX : CXT} {k j : Nat} {x : Str} {ps : List Str} {sp : Sp} {p pos : Pos} {e : Expr} {es : List Expr} {E : XK} {t : TA}
theorem pe_cal (C : Cal X.prog X.w X.K X.mg X.base CX k x ps sp) (hr : Room j X.A) (hk : k ≤ j) (hg : Gl X x) (hx : Passes CX X E) (ha : PA X (e :: es) t)
    (hdb : (x == ("__debug__" : Str)) = false := by decide) (he : starEach (e :: es) X.env = (false, eval e X.env) :: starEach es X.env := by rfl) (hpl : (backTo pos (starEach es X.env)).any (·.1) = false := by rfl) :
    PE X (.Call (.Name x p) (e :: es) [] pos) (tCall sp [] E t) := by
  obtain ⟨f, fd, F, hm, hkp, hb⟩ := C.ex
  exact pe_call F (hr.mono hk) hg hm hkp hb .nil hx ha hdb he hpl
theorem pe_cal0 (C : Cal X.prog X.w X.K X.mg X.base CX k x ps sp) (hr : Room j X.A) (hk : k ≤ j) (hg : Gl X x) (hx : Passes CX X E)
    (hdb : (x == ("__debug__" : Str)) = false := by decide) : PE X (.Call (.Name x p) [] [] pos) (tCall sp [] E tNil) := by
  obtain ⟨f, fd, F, hm, hkp, hb⟩ := C.ex
  exact pe_call0 F (hr.mono hk) hg hm hkp hb .nil hx hdb
/-- a number of the module -/
theorem pe_gint {i : Int} (h : ∃ t, X.mg x = some (.int i t)) (hg : Gl X x) (hd : (x == ("__debug__" : Str)) = false := by decide) : PE X (.Name x pos) (tC (.int i)) := by
  obtain ⟨t, h⟩ := h
  exact pe_glob hg h ⟨t, rfl⟩ hd
/-- a built-in class as a value -/
theorem pe_bty {n : String} (hm : X.mg x = none) (hg : Gl X x) (hv : bootBuiltins x = some (.type n)) (hn : x ≠ "__name__" := by decide) (hd : (x == ("__debug__" : Str)) = false := by decide) : PE X (.Name x pos) (tC (.ty n)) :=
  pe_bltn hg hm hv rfl (hn := hn) (hd := hd)
end

/-! ## data -/
theorem same_new {H : Hp} {p : Addr} {o : HO} (h : H p = none) : Same H (upd H p o) := fun b u q => by
  rw [upd_ne (ne_of_none q h)]
  exact q
/-- a fresh object may change -/
theorem same_mut {H H' : Hp} {p : Addr} {o : HO} (e : Same H H') (h : H p = none) : Same H (upd H' p o) := fun a u ha => by
  rw [upd_ne (ne_of_none ha h)]
  exact e a u ha
mutual
inductive At (H : Hp) : V → PyData → Prop
  | non : At H .non .none
  | bl (b : Bool) : At H (.bl b) (.bool b)
  | int (i : Int) : At H (.int i) (.int i)
  | str (x : Str) : At H (.str x) (.str x)
  | lst {a : Addr} {xs : List V} {ds : List PyData} : H a = some (.lst xs) → AtAll H xs ds → At H (.ref a) (.list ds)
  | tup {a : Addr} {xs : List V} {ds : List PyData} : H a = some (.tup xs) → AtAll H xs ds → At H (.ref a) (.tuple ds)
inductive AtAll (H : Hp) : List V → List PyData → Prop
  | nil : AtAll H [] []
  | cons {v : V} {vs : List V} {d : PyData} {ds : List PyData} : At H v d → AtAll H vs ds → AtAll H (v :: vs) (d :: ds)
end
mutual
theorem At.mono {H H' : Hp} (e : Same H H') : ∀ {v : V} {d : PyData}, At H v d → At H' v d
  | _, _, .non => .non
  | _, _, .bl b => .bl b
  | _, _, .int i => .int i
  | _, _, .str x => .str x
  | _, _, .lst h k => .lst (e _ _ h) (AtAll.mono e k)
  | _, _, .tup h k => .tup (e _ _ h) (AtAll.mono e k)
theorem AtAll.mono {H H' : Hp} (e : Same H H') : ∀ {vs : List V} {ds : List PyData}, AtAll H vs ds → AtAll H' vs ds
  | _, _, .nil => .nil
  | _, _, .cons h k => .cons (At.mono e h) (AtAll.mono e k)
end
mutual
theorem At.dp {H : Hp} {K : PySem.W.Frag} : ∀ {v : V} {d : PyData}, At H v d → Dp K H v d
  | _, _, .non => .non
  | _, _, .bl b => .bl b
  | _, _, .int i => .int i
  | _, _, .str x => .str x
  | _, _, .lst h k => .lst (.inl (.inl h)) (AtAll.dp k)
  | _, _, .tup h k => .tup (.inl (.inl h)) (AtAll.dp k)
theorem AtAll.dp {H : Hp} {K : PySem.W.Frag} : ∀ {vs : List V} {ds : List PyData}, AtAll H vs ds → DpAll K H vs ds
  | _, _, .nil => .nil
  | _, _, .cons h k => .cons (At.dp h) (AtAll.dp k)
end
section
variable {H H' : Hp} {v : V} {vs ws : List V} {d : PyData} {ds es : List PyData}
theorem AtAll.len : ∀ {vs : List V} {ds : List PyData}, AtAll H vs ds → vs.length = ds.length
  | _, _, .nil => rfl
  | _, _, .cons _ k => by simp [AtAll.len k]
theorem AtAll.get : ∀ {vs : List V} {ds : List PyData} {i : Nat} {d : PyData}, AtAll H vs ds → ds[i]? = some d → ∃ v, vs[i]? = some v ∧ At H v d
  | _, _, _, _, .nil, h => by simp at h
  | _, _, 0, _, .cons h _, e => by
    simp only [List.getElem?_cons_zero, Option.some.injEq] at e
    subst e
    exact ⟨_, rfl, h⟩
  | _, _, i + 1, _, .cons _ k, e => by
    simp only [List.getElem?_cons_succ] at e
    obtain ⟨v, h1, h2⟩ := AtAll.get k e
    exact ⟨v, by simpa using h1, h2⟩
theorem AtAll.getv : ∀ {vs : List V} {ds : List PyData} {i : Nat} {v : V}, AtAll H vs ds → vs[i]? = some v → ∃ d, ds[i]? = some d ∧ At H v d
  | _, _, _, _, .nil, h => by simp at h
  | _, _, 0, _, .cons h _, e => by
    simp only [List.getElem?_cons_zero, Option.some.injEq] at e
    subst e
    exact ⟨_, rfl, h⟩
  | _, _, i + 1, _, .cons _ k, e => by
    simp only [List.getElem?_cons_succ] at e
    obtain ⟨d, h1, h2⟩ := AtAll.getv k e
    exact ⟨d, by simpa using h1, h2⟩
theorem AtAll.app : ∀ {vs ws : List V} {ds es : List PyData}, AtAll H vs ds → AtAll H ws es → AtAll H (vs ++ ws) (ds ++ es)
  | _, _, _, _, .nil, k => k
  | _, _, _, _, .cons h q, k => .cons h (AtAll.app q k)
theorem AtAll.take : ∀ {vs : List V} {ds : List PyData} (n : Nat), AtAll H vs ds → AtAll H (vs.take n) (ds.take n)
  | _, _, 0, _ => .nil
  | _, _, _ + 1, .nil => .nil
  | _, _, n + 1, .cons h q => .cons h (AtAll.take n q)
theorem AtAll.drop : ∀ {vs : List V} {ds : List PyData} (n : Nat), AtAll H vs ds → AtAll H (vs.drop n) (ds.drop n)
  | _, _, 0, h => h
  | _, _, _ + 1, .nil => .nil
  | _, _, n + 1, .cons _ q => AtAll.drop n q
theorem AtAll.dropLast : ∀ {vs : List V} {ds : List PyData}, AtAll H vs ds → AtAll H vs.dropLast ds.dropLast
  | _, _, .nil => .nil
  | _, _, .cons _ .nil => .nil
  | _, _, .cons h (.cons k q) => .cons h (AtAll.dropLast (.cons k q))
theorem AtAll.one (h : At H v d) : AtAll H [v] [d] := .cons h .nil
theorem AtAll.ints : ∀ (l : List Int), AtAll H (l.map V.int) (l.map PyData.int)
  | [] => .nil
  | i :: l => .cons (.int i) (AtAll.ints l)
theorem AtAll.of_ints : ∀ {l : List Int} {vs : List V}, AtAll H vs (l.map PyData.int) → vs = l.map V.int
  | [], _, .nil => rfl
  | i :: l, _, .cons h k => by
    cases h
    rw [AtAll.of_ints k]
    rfl
end
/-- a row -/
def dR (l : List Int) : PyData := .tuple (l.map PyData.int)
theorem At.row {H : Hp} {a : Addr} {l : List Int} (h : H a = some (.tup (l.map V.int))) : At H (.ref a) (dR l) := .tup h (AtAll.ints l)
theorem At.of_row {H : Hp} {v : V} {l : List Int} (h : At H v (dR l)) : ∃ a, v = .ref a ∧ H a = some (.tup (l.map V.int)) := by
  unfold dR at h
  cases h with
  | tup h k => rw [AtAll.of_ints k] at h; exact ⟨_, rfl, h⟩
theorem At.of_tup {H : Hp} {v : V} {ds : List PyData} (h : At H v (.tuple ds)) : ∃ a xs, v = .ref a ∧ H a = some (.tup xs) ∧ AtAll H xs ds := by
  cases h with
  | tup h k => exact ⟨_, _, rfl, h, k⟩
theorem sqT {K : PySem.W.Frag} {H : Hp} {a : Addr} {xs : List V} (h : H a = some (.tup xs)) : SqT K H a xs := .inl (.inl h)
theorem sqL {K : PySem.W.Frag} {H : Hp} {a : Addr} {xs : List V} (h : H a = some (.lst xs)) : SqL K H a xs := .inl (.inl h)

/-! ## promises -/
/-- what comes back is d; all that stood stands -/
def Ret (H : Hp) (Q : VK) (d : PyData) : Prop := ∀ v H', Same H H' → At H' v d → Q v H'
/-- .. a new list -/
def RetL (H : Hp) (Q : VK) (ds : List PyData) : Prop := ∀ p xs H', Same H H' → H p = none → H' p = some (.lst xs) → AtAll H' xs ds → Q (.ref p) H'
theorem Ret.go {H H1 : Hp} {Q : VK} {d : PyData} {v : V} (k : Ret H Q d) (e : Same H H1) (h : At H1 v d) : Q v H1 := k v H1 e h
theorem small_ {n : Nat} (h : n ≤ 100000) : n ≤ sizeLine := Nat.le_trans h (by decide)
theorem small' {n : Nat} (h : n ≤ 100000) : n < sizeLine := Nat.lt_of_le_of_lt h (by decide)
end K26
set_option Elab.async false
set_option linter.all false
set_option maxRecDepth 100000
set_option maxHeartbeats 4000000
namespace K26
open PySem PySem.Spec PyProof.Rows L2 RZ RT
/-! ## rules said anew -/
def rLenQ (K : PySem.W.Frag) : List V → Hp → VK → Prop := fun xs H Q => ∃ p ys, xs = [.ref p] ∧ (SqL K H p ys ∨ SqT K H p ys) ∧ Q (.int (ys.length : Nat)) H
def rTupQ (K : PySem.W.Frag) : List V → Hp → VK → Prop := fun xs H Q => ∃ p ys, xs = [.ref p] ∧ ((SqL K H p ys ∧ ∀ l, H l = none → Q (.ref l) (upd H l (.tup ys))) ∨ (SqT K H p ys ∧ Q (.ref p) H))
def rListQ (K : PySem.W.Frag) : List V → Hp → VK → Prop := fun xs H Q => ∃ p ys, xs = [.ref p] ∧ (SqL K H p ys ∨ SqT K H p ys) ∧ ∀ l, H l = none → Q (.ref l) (upd H l (.lst ys))
def rIntQ : List V → Hp → VK → Prop := fun xs H Q => ∃ i, xs = [.int i] ∧ Q (.int i) H
def rMin2Q : List V → Hp → VK → Prop := fun xs H Q => ∃ i j, xs = [.int i, .int j] ∧ Q (.int (min i j)) H
def rMax2Q : List V → Hp → VK → Prop := fun xs H Q => ∃ i j, xs = [.int i, .int j] ∧ Q (.int (max i j)) H
/-- min of a row -/
def rMinT (K : PySem.W.Frag) : List V → Hp → VK → Prop := fun xs H Q => ∃ (a : Addr) (n : Int) (ns : List Int), xs = [.ref a] ∧ SqT K H a ((n :: ns).map V.int) ∧ (n :: ns).length ≤ 1000 ∧ Q (.int (ns.foldl min n)) H
def rIsNQ : R2 := fun x y H Q => y = .non ∧ Q (.bl (decide (x = .non))) H
def rNotNQ : R2 := fun x y H Q => y = .non ∧ Q (.bl (!decide (x = .non))) H
section
variable {X : Cx}
theorem call_lenQ : CallR X (.builtin "len") (rLenQ X.K) := call_len_seq
theorem call_tupQ : CallR X (.type "tuple") (rTupQ X.K) := call_tuple_of
theorem call_listQ : CallR X (.type "list") (rListQ X.K) := call_list_of
theorem call_intQ : CallR X (.type "int") rIntQ := fun pins s σ H xs us Q I r h => call_int1 pins s σ H xs us Q I r (.inl h)
theorem call_min2Q (hc : X.calm = true) : CallR X (.builtin "min") rMin2Q := fun pins s σ H xs us Q I r ⟨i, j, e, q⟩ => call_min2 hc pins s σ H xs us Q I r ⟨i, j, e, by
  rw [show (if j < i then j else i) = min i j by omega]
  exact q⟩
theorem call_max2Q (hc : X.calm = true) : CallR X (.builtin "max") rMax2Q := fun pins s σ H xs us Q I r ⟨i, j, e, q⟩ => call_max2 hc pins s σ H xs us Q I r ⟨i, j, e, by
  rw [show (if j > i then j else i) = max i j by omega]
  exact q⟩
theorem op_isNQ : OpR X (compareOp .Is) rIsNQ := op_isN
theorem op_notNQ : OpR X (compareOp .IsNot) rNotNQ := op_notN
theorem dpAll_ints {K : PySem.W.Frag} {H : Hp} : ∀ l : List Int, DpAll K H (l.map V.int) (l.map PyData.int)
  | [] => .nil
  | i :: l => .cons (.int i) (dpAll_ints l)
theorem depth_ints : ∀ l : List Int, PyData.depthAll (l.map PyData.int) = 0
  | [] => by simp [PyData.depthAll]
  | i :: l => by simp [PyData.depthAll, PyData.depth, depth_ints l]
theorem alike_ints (l : List Int) : PySem.W.AlikeAll (l.map PyData.int) := by
  refine ⟨fun x hx y hy => ?_, fun x hx => ?_⟩
  · obtain ⟨i, _, rfl⟩ := List.mem_map.mp hx
    obtain ⟨j, _, rfl⟩ := List.mem_map.mp hy
    rfl
  · obtain ⟨i, _, rfl⟩ := List.mem_map.mp hx
    intro z
    cases z
theorem call_minT (hc : X.calm = true) (hu : X.A.units + 64 < cLine) : CallR X (.builtin "min") (rMinT X.K) := by
  intro pins s σ H vs us Q I r h
  obtain ⟨a, n, ns, rfl, hs, hz, q⟩ := h
  obtain ⟨its, rv, hl, _⟩ := I.tuple hs
  rw [Vals.ref1 r]
  obtain ⟨as, hr⟩ := Dp.readsAll I ((n :: ns).map PyData.int) _ _ (dpAll_ints (n :: ns)) rv
  have hd := depth_ints (n :: ns)
  simp only [List.map_cons] at hd
  refine PySem.W.min_tuple_data (x := .int n) (xs := ns.map PyData.int) (I.ok.hd hc) hl (by simpa using hr) (alike_ints (n :: ns)) (by omega) fun i v h' tk bs hi rd hk => ?_
  rw [PySem.W.minD_ints] at rd
  cases rd with
  | int j t => exact ⟨.int _, H, I.kept (t' := tk) hk, ⟨_, rfl⟩, q⟩
end

/-! ## enumerate(tuple) -/
theorem meets_enum_newT {v : Value} {o : Obj} {H : Heap → Prop} (B : Begins v o H) :
    Meets (Builtin.«enumerate.__new__» ⟨[.type "enumerate", v], []⟩) (fun _ R s => H s.heap ∧
      R (.ok (.ret (.ref (s.heap.push o).objs.size))) { s with heap := (s.heap.push o).push { cls := .type "enumerate", data := .fields #[.none, .bool false, .ref s.heap.objs.size, rawInt 0, .none, .none] } }) :=
  .of_wp fun prog w A R s h => by
    obtain ⟨hp, g, d, tk, os⟩ := s; obtain ⟨h1, h⟩ := h
    have hsub := sub_enumerate
    have q1 : ∀ {A' : Around} {E : Value → Shared → Prop} {Q : Value → Shared → Prop}, Q (.ref hp.objs.size) ⟨hp.push o, g, d, tk, os⟩ → wpAny (model prog w) A' (pyIter v) Q E ⟨hp, g, d, tk, os⟩ :=
      fun q => B.iter prog w _ _ ⟨hp, g, d, tk, os⟩ _ h1 q
    wp_walk using q1
    refine wpAny_stack_any fun st => wpAny_pure ?_
    split
    · rename_i c _ _ _ _ _
      cases (c == Value.type "enumerate")
      · wp_walk using q1
        exact ⟨_, rfl, h⟩
      · wp_walk using q1
        exact ⟨_, rfl, h⟩
    · wp_walk using q1
      exact ⟨_, rfl, h⟩
theorem call_enumT {prog : Program} {w : World} {A : Around} {E : Value → Shared → Prop} {s : Shared} {t : Addr} {items : Array Value} {Q : Value → Shared → Prop} (hL : s.heap.IsTuple t items)
    (h : ∀ h', IsEnum h' (s.heap.objs.size + 1) s.heap.objs.size 0 .none → h'.IsTupleIter s.heap.objs.size t 0 → h'.objs.size = s.heap.objs.size + 2 →
      (∀ b o, s.heap.get? b = some o → h'.get? b = some o) → Q (.ref (s.heap.objs.size + 1)) { s with heap := h' }) :
    wpAny (model prog w) A (call (.type "enumerate") [.ref t]) Q E s := by
  refine callType_new F.called_enumerate (by decide) (F.typeCall_enumerate_1 _) (F.newCall_enumerate_1 _) (fun obj => F.args_object_init_2 obj _) F.entry_enumerate_new
    (meets_enum_newT (begins_tuple t items)) ⟨hL, ?_⟩
  have hz : (s.heap.push { cls := .type "tuple_iterator", data := .fields #[.ref t, .int 0 0] }).objs.size = s.heap.objs.size + 1 := Heap.size_push ..
  show _ ∧ _
  rw [hz]
  have he : IsEnum ((s.heap.push { cls := .type "tuple_iterator", data := .fields #[.ref t, .int 0 0] }).push
      { cls := .type "enumerate", data := .fields #[.none, .bool false, .ref s.heap.objs.size, rawInt 0, .none, .none] }) (s.heap.objs.size + 1) s.heap.objs.size 0 .none := by
    have := Heap.get?_push_size (s.heap.push { cls := .type "tuple_iterator", data := .fields #[.ref t, .int 0 0] })
      (o := { cls := .type "enumerate", data := .fields #[.none, .bool false, .ref s.heap.objs.size, rawInt 0, .none, .none] }) rfl
    rw [hz] at this; exact this
  refine ⟨⟨_, he, rfl⟩, h _ he ⟨_, Heap.get?_push_of_some _ (Heap.get?_push_size _ rfl), rfl, rfl⟩ (by rw [Heap.size_push, hz]) fun b o x => Heap.get?_push_of_some _ (Heap.get?_push_of_some _ x)⟩
def IteT (K : PySem.W.Frag) (a : Addr) (n : Nat) : It :=
  ⟨fun i H => ∃ (xs : List V) (x : V), SqT K H a xs ∧ xs.length = n ∧ xs[i]? = some x, fun i H v H' => ∃ T x, v = .ref T ∧ H T = none ∧ H' = upd H T (.tup [.int (i : Nat), x]) ∧ ∀ xs, SqT K H a xs → xs[i]? = some x, fun i H => ∃ xs : List V, SqT K H a xs ∧ xs.length = n ∧ n ≤ i⟩
theorem turn_enumT {P : Program} {w : World} {K : PySem.W.Frag} {elts : List Expr} {kk : Nat} {tpos : Pos} (a e it : Addr) (n : Nat) :
    Turn P w K (.Tuple elts kk tpos) (IteT K a n) [e, it] e (fun i h => (∃ old, IsEnum h e it ((i : Nat) : Int) old) ∧ h.IsTupleIter it a i ∧ e ≠ it ∧ a ≠ it ∧ e ≠ a ∧ i ≤ n) where
  mem := by simp
  obj := fun i h st b hb => by
    obtain ⟨⟨old, he⟩, ⟨o, ho, hc, hd⟩, _⟩ := st
    have e' : b = e ∨ b = it := by simpa using hb
    rcases e' with z | z
    · rw [z]; exact ⟨_, he, fun v q => nomatch q⟩
    · rw [z]; exact ⟨o, ho, fun v q => by rw [hd] at q; cases q⟩
  keep := fun i h h' st k => let ⟨⟨old, he⟩, hi, hne⟩ := st; ⟨⟨old, k e (by simp) _ he⟩, hi.at fun o q => k it (by simp) o q, hne⟩
  item := by
    intro X hP hw hK hc i pins s σ H E I hf st hg
    subst hP hw hK
    obtain ⟨⟨old, he⟩, hit, hne, hai, hea, hin⟩ := st
    obtain ⟨xs, x, hq, hxn, hx⟩ := hg
    obtain ⟨its, rv, p, hz⟩ := I.tuple hq
    obtain ⟨u, hu, ru⟩ := rv.get hx
    have hel : e < s.heap.objs.size := Heap.lt_size he
    have hil : it < s.heap.objs.size := by obtain ⟨_, q, _⟩ := hit; exact Heap.lt_size q
    have hlt : i < its.toArray.size := by
      have q := (List.getElem?_eq_some_iff.mp hu).1
      simpa using q
    refine wpAny_pyNext_enum_itemD (Draws.tuple (prog := X.prog) (w := X.w) (A := X.A.in1) (I.ok.hd hc) it a hai its.toArray) he ⟨hit, p⟩ hlt hne (by simp [hne, hea]) fun u' h' tk hu' ho hst hT hsz hk => ?_
    obtain ⟨hit', _⟩ := hst
    have eu : u' = u := by
      have q : its[i]? = some u' := by simpa using hu'
      rw [hu] at q
      exact (Option.some.inj q).symm
    subst eu
    refine ⟨_, rfl, wpAny_letOwnedTupleGo_enum (s := { s with heap := h', toks := tk + 1 }) ho fun h'' he' sb => ?_⟩
    have hT2 : h''.get? s.heap.objs.size = some { cls := .type "tuple", data := .seq #[.int i tk, u'] } := (sb.2 _ (Nat.ne_of_gt hel)).trans hT
    have new : ObjOk X.prog X.w (upd H s.heap.objs.size (.tup [.int (i : Nat), x])) h'' s.heap.objs.size (.tup [.int (i : Nat), x]) :=
      ⟨by show 2 ≤ sizeLine; decide, [.int i tk, u'], .cons ⟨_, rfl⟩ (.cons ru .nil), ⟨_, hT2, rfl, _, rfl⟩⟩
    have I1 : Inv X pins σ (upd H s.heap.objs.size (.tup [.int (i : Nat), x])) { s with heap := h'', toks := tk + 1 } :=
      I.turnedNew (ch := [e, it]) (fun b ob hb q => (sb.2 b (fun z => hb (by simp [z]))).trans (hk b ob (fun z => hb (by simp [z])) (fun z => hb (by simp [z])) q)) hf (Nat.le_refl _) new
    refine ⟨.ref s.heap.objs.size, _, I1, rfl, ⟨_, x, rfl, I.hok.fresh (Nat.le_refl _), rfl, fun ys hy => by rw [I.tuple_inj hy hq]; exact hx⟩, ⟨⟨u', ?_⟩, hit'.at fun o q => (sb.2 it (Ne.symm hne)).trans q, hne, hai, hea, ?_⟩, fun b hb => ?_⟩
    · have e1 : ((i + 1 : Nat) : Int) = (i : Int) + 1 := by omega
      rw [e1]; exact he'
    · have q := (List.getElem?_eq_some_iff.mp hx).1
      omega
    · have hb' : b < s.heap.objs.size := by
        have e' : b = e ∨ b = it := by simpa using hb
        rcases e' with z | z
        · rw [z]; exact hel
        · rw [z]; exact hil
      rw [upd_ne (Nat.ne_of_lt hb')]
      exact (hf b hb).1
  done := by
    intro X hP hw hK hc i pins s σ H E I hf st hg
    subst hP hw hK
    obtain ⟨⟨old, he⟩, hit, hne, hai, hea, hin⟩ := st
    obtain ⟨xs, hq, hxn, hni⟩ := hg
    obtain ⟨its, rv, p, hz⟩ := I.tuple hq
    obtain ⟨f0, f1, f2, f3, f4, f5⟩ := hf it (by simp)
    have hl := rv.length
    have e1 : i = its.toArray.size := by rw [List.size_toArray, ← hl]; omega
    subst e1
    exact wpAny_pyNext_enum_endD (Draws.tuple (prog := X.prog) (w := X.w) (A := X.A.in1) (I.ok.hd hc) it a hai its.toArray) he ⟨hit, p⟩ fun h' eb => ⟨rfl, I.turned (t' := s.toks) (fun b o hb q => eb b o hb q) f0 f1 f3 f4 f5⟩
  self := fun A i s Q E st h => let ⟨⟨_, he⟩, _⟩ := st; wpAny_pyIter_enum he h
def iEnumT (K : PySem.W.Frag) (ta : TA) : TI := fun σ H R => ta σ H fun vs H1 => ∃ a xs, vs = [.ref a] ∧ SqT K H1 a xs ∧ R (IteT K a xs.length) H1
theorem pi_enumT {X : Cx} {e : Expr} {ta : TA} {p pos tpos : Pos} {elts : List Expr} {kk : Nat} (hg : Gl X "enumerate") (hm : X.mg "enumerate" = none) (ha : PA X [e] ta) (hs : starEach [e] X.env = [(false, eval e X.env)] := by rfl) :
    PI X (.Tuple elts kk tpos) (.Call (.Name "enumerate" p) [e] [] pos) (iEnumT X.K ta) := by
  refine ⟨fun pins s σ H R I h => ?_⟩
  refine Call_ (ld_blt I hg hm boot_enumerate (PyProof.Rows.callWith_type1 (thn (ha.run pos pins s σ H _ I h) fun us s1 ⟨vs, H1, I1, r1, q1⟩ => ?_) hs rfl))
  obtain ⟨a, xs, ex, hq, q⟩ := q1
  subst ex
  cases r1 with
  | cons r rr =>
    cases rr
    cases r
    obtain ⟨its, rv, p', hz⟩ := I1.tuple hq
    have hlt : a < s1.heap.objs.size := p'.lt
    refine call_enumT p' fun h' he hit hsz hk => wpAny_pyIter_enum he ?_
    have I2 : Inv X pins σ H1 { s1 with heap := h' } := I1.kept (t' := s1.toks) hk
    refine ⟨s1.heap.objs.size + 1, [s1.heap.objs.size + 1, s1.heap.objs.size], _, _, H1, rfl, I2, turn_enumT a (s1.heap.objs.size + 1) s1.heap.objs.size xs.length, ⟨⟨.none, he⟩, hit, Nat.succ_ne_self _, Nat.ne_of_lt hlt, Nat.ne_of_gt (Nat.lt_succ_of_lt hlt), Nat.zero_le _⟩, fun b hb => ?_, q⟩
    have e' : b = s1.heap.objs.size + 1 ∨ b = s1.heap.objs.size := by simpa using hb
    have hle : s1.heap.objs.size ≤ b := by
      rcases e' with z | z
      · rw [z]; exact Nat.le_add_right _ _
      · rw [z]; exact Nat.le_refl _
    exact I1.fpOk hle (I1.hok.fresh hle)
theorem walk_enumT {K : PySem.W.Frag} {a : Addr} {xs : List V} : Walk (IteT K a xs.length) xs.length (fun H => SqT K H a xs) (YPair (fun i => some (.int (i : Nat))) (fun i => xs[i]?)) := by
  refine ⟨fun i _ hi q => ⟨xs, xs[i], q, rfl, by simp [hi]⟩, fun _ q => ⟨xs, q, rfl, Nat.le_refl _⟩, fun i H v H' _ q y => ?_⟩
  obtain ⟨T, x, h1, h2, h3, h4⟩ := y
  exact ⟨T, .int (i : Nat), x, h1, h2, h3, rfl, h4 xs q⟩

/-! ## t[::-1] of a tuple -/
theorem getItem_tuple_rev {prog : Program} {w : World} {A : Around} {E : Value → Shared → Prop} {s : Shared} {t sl : Addr} {items : Array Value} {vs : Value} {Q : Value → Shared → Prop} (ht : IsTup s.heap t items) (hs : s.heap.IsSliceOf sl .none .none vs) (ps : IsPart vs (some (-1)))
    (h : Q (.ref s.heap.objs.size) { s with heap := s.heap.push { cls := .type "tuple", data := .seq items.toList.reverse.toArray } })
    (hsz : items.size ≤ sizeLine) : wpAny (model prog w) A (getItem (.ref t) (.ref sl)) Q E s := by
  have htake : sizeOk (.seq items.toList.reverse.toArray) := by
    show items.toList.reverse.toArray.size ≤ sizeLine
    simpa using hsz
  obtain ⟨os, hos, hcs, hds⟩ := id hs
  have hTs : s.TypeIs (.ref sl) "slice" := ⟨os, hos, hcs⟩
  unfold getItem
  try with_reducible refine wpAny_holding ?_
  first | refine wpAny_bind (wpAny_pure ?_) | skip
  refine wpAny_bind (wpAny_sequenceKey ht.typeIs (by decide) ?_)
  refine wpAny_bind (wpAny_callSpecial?_slot (name := Str.ofString "__getitem__") ht.typeIs PyProof.Rows.slot_tuple_getitem
    (wpAny_call_entry PyProof.Rows.slot_tuple_getitem ht.typeIs entry_tuple_getitem ?_ (args_tuple_getitem _ _)))
  show wpAny _ _ (Builtin.Tuple.tupleItemsOf (.ref t) >>= _) _ _ s
  refine wpAny_bind (tupleItemsOf_ ht ?_)
  refine wpAny_bind (wpAny_typeOf hTs ?_)
  rw [if_pos (by decide)]
  refine wpAny_bind (m := Builtin.Slice.sliceApplied (.ref sl) (pure (items.size : Int))) ?_
  unfold Builtin.Slice.sliceApplied Builtin.Slice.sliceFields
  refine wpAny_bind (wpAny_bind (wpAny_field hos hds (x := .none) rfl (wpAny_bind (wpAny_field hos hds (x := .none) rfl (wpAny_bind (wpAny_field hos hds (x := vs) rfl (wpAny_pure ?_)))))))
  refine wpAny_bind (HT.slicePart_ ps ?_)
  show wpAny _ _ (if ((-1 : Int) == 0) = true then _ else _) _ _ s
  rw [if_neg (by decide)]
  refine wpAny_bind (slicePart_none (wpAny_bind (slicePart_none (wpAny_bind (wpAny_pure ?_)))))
  show wpAny _ _ (pure (((items.size : Int) - 1), (-1 : Int), Builtin.Slice.slicePlaces ((items.size : Int) - 1) (-1) (-1))) _ _ s
  have e1 : Builtin.Slice.slicePlaces ((items.size : Int) - 1) (-1) (-1) = items.size := by
    unfold Builtin.Slice.slicePlaces
    simp
    omega
  rw [e1]
  refine wpAny_pure ?_
  show wpAny _ _ (if ((((items.size : Int) - 1) == 0 && (-1 : Int) == 1 && items.size == items.size) = true) then _ else _) _ _ s
  rw [if_neg (by simp)]
  have e2 : (List.range items.size).filterMap (fun (k : Nat) => items[(((items.size : Int) - 1) + (k : Int) * (-1)).toNat]?) = items.toList.reverse := by
    have e3 : (fun (k : Nat) => items[(((items.size : Int) - 1) + (k : Int) * (-1)).toNat]?) = (fun i => items[i]?) ∘ (fun k => items.size - 1 - k) := by
      funext k
      show items[(((items.size : Int) - 1) + (k : Int) * (-1)).toNat]? = items[items.size - 1 - k]?
      rw [show (((items.size : Int) - 1) + (k : Int) * (-1)).toNat = items.size - 1 - k by omega]
    rw [e3, ← List.filterMap_map, PySem.W.krv_range, List.filterMap_reverse, PySem.W.krv_all]
  rw [e2]
  first
    | exact wpAny_bind (m := Builtin.Tuple.tupleExact _) (wpAny_newObj_type (wpAny_pure ⟨_, rfl, wpAny_pure h⟩) htake)
    | exact wpAny_bind (m := Builtin.Tuple.tupleExact _) (wpAny_newObj_type (wpAny_bind (wpAny_pure (wpAny_pure ⟨_, rfl, wpAny_pure h⟩))) htake)
def tRevT (K : PySem.W.Frag) (te : TE) : TE := fun σ H Q => te σ H fun x H1 => ∃ a xs, x = .ref a ∧ SqT K H1 a xs ∧ ∀ p, H1 p = none → Q (.ref p) (upd H1 p (.tup xs.reverse))
section
variable {X : Cx}
theorem pe_revT {e : Expr} {te : TE} {k : Nat} {p1 p2 p3 pos : Pos} (he : PE X e te) : PE X (.Subscript e (.Slice none none (some (.UnaryOp .USub (.Constant (.int 1) k p1) p2)) p3) pos) (tRevT X.K te) := by
  refine ⟨fun pins s σ H Q I h => ?_⟩
  refine Subscript_ (thn (he.run pins s σ H _ I h) fun v s1 ⟨x, H1, I1, r1, q1⟩ => ?_)
  obtain ⟨a, xs, ex, hx, q⟩ := q1
  subst ex
  cases r1
  have hst : PO X (some (.UnaryOp .USub (.Constant (.int 1) k p1) p2)) (tPart (tUn (rU fun i => .int (-i)) (tC (.int 1)))) := po_some (pe_un un_neg pe_int)
  refine wpAny_Slice (thn (po_none.run pins s1 σ H1 (fun o H2 => o = none ∧ H2 = H1) I1 ⟨rfl, rfl⟩) fun vl s2 ⟨l, H2, I2, pl, el, e2⟩ => ?_)
  subst el e2
  refine thn (po_none.run pins s2 σ H2 (fun o H3 => o = none ∧ H3 = H2) I2 ⟨rfl, rfl⟩) fun vu s3 ⟨u, H3, I3, pu, eu, e3⟩ => ?_
  subst eu e3
  refine thn (hst.run pins s3 σ H3 (fun o H4 => o = some (-1) ∧ H4 = H3) I3 ⟨1, rfl, -1, rfl, rfl, rfl⟩) fun vs s4 ⟨o, H4, I4, ps, eo, e4⟩ => ?_
  subst eo e4
  have I5 : Inv X pins σ H4 { s4 with heap := s4.heap.push { cls := .type "slice", data := .fields #[vl, vu, vs] } } := I4.kept (t' := s4.toks) fun b ob q => Heap.get?_push_of_some _ q
  obtain ⟨its, r, ht, hz⟩ := I5.tuple hx
  have hlen := r.length
  cases pl
  cases pu
  show wpAny (model X.prog X.w) X.A (subscriptTail e (.Slice none none (some (.UnaryOp .USub (.Constant (.int 1) k p1) p2)) p3) (.ref a) (.ref s4.heap.objs.size)) (EP X pins σ Q) X.xe { s4 with heap := s4.heap.push { cls := .type "slice", data := .fields #[.none, .none, vs] } }
  refine tail_any (ops := [.ref a, .ref s4.heap.objs.size]) ht.typeIs (PyProof.Rows.slot_tuple_getitem.lookup) ?_ (by with_unfolding_all rfl)
  refine getItem_tuple_rev ht (Heap.IsSliceOf.new _ .none .none vs) ps ?_ (by rw [List.size_toArray]; omega)
  refine ⟨.ref _, _, I5.laid (t' := s4.toks) (o := .tup xs.reverse) (fun b ob q => Heap.get?_push_of_some _ q) (Nat.le_refl _) ?_, rfl, q _ (I5.hok.fresh (Nat.le_refl _))⟩
  exact ⟨by rw [List.length_reverse]; exact hz, _, r.reverse, ⟨_, Heap.get?_push_size _ rfl, rfl, _, rfl⟩⟩
end
end K26
set_option Elab.async false
set_option linter.all false
set_option maxRecDepth 100000
set_option maxHeartbeats 4000000
namespace K26
open PySem PySem.Spec PyProof.Rows L2 RZ RT
/-! ## t * n -/
theorem tuple_mul1 (l : Addr) (items : Array Value) (n : Nat) (dd : Option Addr) (sl : Array (Option Value)) (u : Tok) :
    Meets (Builtin.«tuple.__mul__» ⟨[.ref l, .int 1 u], []⟩) (fun _ R s => s.heap.get? l = some { cls := .type "tuple", dict := dd, data := .seq items n, slots := sl } ∧ R (.ok (.ret (Value.ref l))) s) :=
  .of_wp fun prog w A R s h => by
    obtain ⟨hp, g, d, tk, os⟩ := s
    obtain ⟨hl, h⟩ := h
    have f1 := AutoSeq1.idx_int
    have c0 : (decide ((1 : Int) < -(2 ^ 63)) || decide ((1 : Int) ≥ 2 ^ 63)) = false := by decide
    have c1 : (items.isEmpty || (1 : Int) == 1) = true := by simp
    wp_walk using wpAny_loadPart' hl
    repeat (first
      | (refine wpAny_ite_false (decide_eq_false (by rw [c0]; exact Bool.false_ne_true)) ?_; wp_walk using wpAny_loadPart' hl)
      | (refine wpAny_ite_true (decide_eq_true (by rw [c1])) ?_; wp_walk using wpAny_loadPart' hl))
    exact ⟨_, rfl, h⟩
def rRepQ (K : PySem.W.Frag) : R2 := fun x y H Q => ∃ l k xs, x = .ref l ∧ y = .int k ∧ SqT K H l xs ∧ xs ≠ [] ∧ 1 ≤ k ∧ k ≤ 1000 ∧ xs.length ≤ 1000 ∧ (k = 1 → Q (.ref l) H) ∧ (2 ≤ k → ∀ p, H p = none → Q (.ref p) (upd H p (.tup (List.replicate k.toNat xs).flatten)))
theorem op_repT1 {X : Cx} : OpR X (binaryOp .Mult) (rRepQ X.K) := by
  intro pins s σ H x y v u Q I rx ry h
  obtain ⟨l, k, xs, rfl, rfl, hT, hne, h1, h2, hz, q1, q2⟩ := h
  by_cases hk : 2 ≤ k
  · exact op_repT pins s σ H _ _ v u Q I rx ry ⟨l, k, xs, rfl, rfl, hT, hne, hk, h2, hz, q2 hk⟩
  have e : k = 1 := by omega
  subst e
  cases rx
  obtain ⟨t, rfl⟩ := ry
  obtain ⟨its, r, ⟨⟨cls, dd, data, sl⟩, ho, hc, n, hd⟩, hs⟩ := I.tuple hT
  simp only at hc hd
  subst hc hd
  refine wpAny_binaryOp_repeat_ref (T := "tuple") (U := "int") (by decide) ⟨_, ho, rfl⟩ (fun s' => typeIs_int s' 1 t) noFill_tuple_mul F.fills_int_mul F.slot_int_rmul repeat_tuple F.slot_int_index.lookup
    (call_meets F.slot_int_rmul (typeIs_int s 1 t) F.entry_int_rmul (F.args_int_rmul_2 _ _) (int_rmul_tuple 1 t l its.toArray n dd sl)
      ⟨ho, rfl, ⟨_, ho, rfl⟩, call_meets F.slot_tuple_mul ⟨_, ho, rfl⟩ F.entry_tuple_mul (F.args_tuple_mul_2 _ _) (tuple_mul1 l its.toArray n dd sl t) ⟨ho, ?_⟩⟩)
  exact ⟨.ref l, H, I, rfl, q1 rfl⟩
/-! ## t[a:], t[:b] -/
def tSlF (K : PySem.W.Frag) (te ta : TE) : TE := fun σ H Q => te σ H fun x H1 => ta σ H1 fun y H2 => ∃ i, y = .int i ∧ rSlA K x (some i) none H2 Q
def tSlT (K : PySem.W.Frag) (te ta : TE) : TE := fun σ H Q => te σ H fun x H1 => ta σ H1 fun y H2 => ∃ i, y = .int i ∧ rSlA K x none (some i) H2 Q
section
variable {X : Cx}
theorem pe_slF {e a : Expr} {te ta : TE} {p2 pos : Pos} (he : PE X e te) (ha : PE X a ta) : PE X (.Subscript e (.Slice (some a) none none p2) pos) (tSlF X.K te ta) := pe_slice sl_tupA he (po_some ha) po_none
theorem pe_slT {e a : Expr} {te ta : TE} {p2 pos : Pos} (he : PE X e te) (ha : PE X a ta) : PE X (.Subscript e (.Slice none (some a) none p2) pos) (tSlT X.K te ta) := pe_slice sl_tupA he po_none (po_some ha)
end
end K26
set_option Elab.async false
set_option linter.all false
set_option maxRecDepth 100000
set_option maxHeartbeats 4000000
namespace K26
open PySem PySem.Spec PyProof.Rows L2 RZ RT
theorem yes_if {σ : L2.St} {H : Hp} {A B : Hp → Prop} (h : A H) : tYes σ H (fun b H3 => if b = true then A H3 else B H3) := by
  show (if true = true then A H else B H)
  rw [if_pos rfl]
  exact h
section
variable {K : PySem.W.Frag} {a b : Addr} {xs ys : List V}
theorem walk_zipT {n : Nat} (hn : n = min xs.length ys.length) : Walk (RZ.ItzT K a b) n (fun H => SqT K H a xs ∧ SqT K H b ys) (YPair (fun i => xs[i]?) (fun i => ys[i]?)) := by
  subst hn
  refine ⟨fun i _ hi q => ?_, fun _ q => ⟨xs, ys, q.1, q.2, by omega⟩, fun i H v H' _ q y => ?_⟩
  · have h1 : i < xs.length := by omega
    have h2 : i < ys.length := by omega
    exact ⟨xs, ys, xs[i], ys[i], q.1, q.2, by simp [h1], by simp [h2]⟩
  · obtain ⟨T, x, z, h1, h2, h3, h4, h5⟩ := y
    exact ⟨T, x, z, h1, h2, h3, h4 xs q.1, h5 ys q.2⟩
/-- [e for x, y in zip(t, u)], e a value told by the turn -/
theorem rd_zip {σ : L2.St} {H1 : Hp} {D : Addr} {Qd : Hp → Prop} {te : TE} {i j : Nat} {vs : List Nat} (f : Nat → V) (hx : H1 a = some (.tup xs)) (hy : H1 b = some (.tup ys)) (hl : xs.length = ys.length) (hz : xs.length ≤ 100000) (hD : H1 D = none)
    (hw : ∀ x y, wipe (((wipe σ vs).set i (some x)).set j (some y)) vs = wipe σ vs)
    (he : ∀ (m : Nat) (x y : V) (H2 : Hp) (Q : VK), xs[m]? = some x → ys[m]? = some y → Same H1 H2 → Q (f m) H2 → te (((wipe σ vs).set i (some x)).set j (some y)) H2 Q)
    (hd : ∀ H2, Same H1 H2 → H2 D = some (.lst ((List.range xs.length).map f)) → Qd H2) :
    ∃ W : Nat → Nat → Hp → Prop, (∃ m, W 0 m (upd H1 D (.lst []))) ∧ ∀ n m H, W n m H →
      ((RZ.ItzT K a b).stop n H ∧ Qd H) ∨ ((RZ.ItzT K a b).go n H ∧ ∃ Nx : Hp → Prop, (∀ H', Nx H' → ∃ m', m' < m ∧ W (n + 1) m' H') ∧ ∀ x H', (RZ.ItzT K a b).yld n H x H' → gTup K 2 (gCons (gName i) (gCons (gName j) gNil)) x (wipe σ vs) H' fun σ2 H2 => wipe σ2 vs = wipe σ vs ∧ tYes σ2 H2 fun b H3 =>
        if b = true then te σ2 H3 fun y H4 => ∃ acc, H4 D = some (.lst acc) ∧ acc.length < sizeLine ∧ Nx (upd H4 D (.lst (acc ++ [y]))) else Nx H3) := by
  refine lc_it (walk_zipT (n := xs.length) (xs := xs) (ys := ys) (by omega)) (fun n H => Same H1 H ∧ H D = some (.lst ((List.range n).map f))) ⟨same_mut (Same.refl H1) hD, upd_same⟩ (fun n H _ p => ⟨sqT (p.1 _ _ hx), sqT (p.1 _ _ hy)⟩) ?_ (fun H p => hd H p.1 p.2)
  rintro n v H H' hn ⟨p, q⟩ ⟨T, x, y, rfl, nT, rfl, ex, ey⟩
  have e1 : Same H (upd H T (.tup [x, y])) := same_new nT
  have nDT : D ≠ T := ne_of_none q nT
  refine ⟨T, [x, y], rfl, sqT upd_same, rfl, x, [y], rfl, y, [], rfl, rfl, hw x y, ?_⟩
  refine yes_if ?_
  refine he n x y _ _ ex ey (p.trans e1) ?_
  refine ⟨(List.range n).map f, by rw [upd_ne nDT]; exact q, ?_, same_mut (p.trans e1) hD, ?_⟩
  · rw [List.length_map, List.length_range]
    exact small' (by omega)
  · rw [upd_same, List.range_succ, List.map_append]
    rfl
end
/-! ## added, less -/
theorem add_get : ∀ {a b : List Int} {i : Nat} {x y : Int}, a[i]? = some x → b[i]? = some y → (add a b)[i]? = some (x + y)
  | [], _, _, _, _, h, _ => by simp at h
  | _ :: _, [], _, _, _, _, h => by simp at h
  | a :: as, b :: bs, 0, x, y, h, k => by simp at h k; simp [add, h, k]
  | a :: as, b :: bs, i + 1, x, y, h, k => by simp at h k; simpa [add] using add_get h k
theorem sub_get : ∀ {a b : List Int} {i : Nat} {x y : Int}, a[i]? = some x → b[i]? = some y → (sub a b)[i]? = some (x - y)
  | [], _, _, _, _, h, _ => by simp at h
  | _ :: _, [], _, _, _, _, h => by simp at h
  | a :: as, b :: bs, 0, x, y, h, k => by simp at h k; simp [sub, h, k]
  | a :: as, b :: bs, i + 1, x, y, h, k => by simp at h k; simpa [sub] using sub_get h k
theorem range_map {l : List Int} : (List.range l.length).map (fun i => V.int (l.getD i 0)) = l.map V.int := by
  refine List.ext_getElem? fun i => ?_
  rw [List.getElem?_map, List.getElem?_map]
  by_cases h : i < l.length
  · rw [List.getElem?_range h]
    simp [h]
  · rw [List.getElem?_eq_none (by simpa using h), List.getElem?_eq_none (by simpa using h)]
    rfl
theorem getI {l : List Int} {i : Nat} {v : V} (h : (l.map V.int)[i]? = some v) : ∃ x, l[i]? = some x ∧ v = .int x := by
  rw [List.getElem?_map] at h
  cases e : l[i]? with
  | none => rw [e] at h; cases h
  | some x => rw [e] at h; exact ⟨x, rfl, (Option.some.inj h).symm⟩
/-- two rows of one length; their sum comes back -/
def spAdd : Sp := fun vs H Q _ => ∃ (u v : V) (a b : List Int), vs = [u, v] ∧ At H u (dR a) ∧ At H v (dR b) ∧ a.length = b.length ∧ a.length ≤ 1000 ∧ Ret H Q (dR (add a b))
def spSub : Sp := fun vs H Q _ => ∃ (u v : V) (a b : List Int), vs = [u, v] ∧ At H u (dR a) ∧ At H v (dR b) ∧ a.length = b.length ∧ a.length ≤ 1000 ∧ Ret H Q (dR (sub a b))
section
variable {P : Program} {w : World} {K : PySem.W.Frag} {mg : Str → Option Value} {base : Heap} {f : Addr} {fd : FuncData}
/-- as FunD.ok, for a def that lets nothing out -/
theorem ok0 {x : Str} {st : Stmt} {N ps : List Str} {k : Nat} {sp : Sp} (F : FnP K x st f fd) (S : FnScope N ps (defScope st)) (len : ∀ vs H Q E, sp vs H Q E → vs.length = ps.length)
    (hbody : ∀ (cdv : Value) (A : Around) (outer : List Env) (s : Shared) (H : Hp) (vs : List V) (Q : VK) (E : XK), Room k (A.deeper (envOfC x (defScope st) s.heap.objs.size f cdv)) → sp vs H Q E →
      ∃ t, PSs (cxOf CX0 P w K mg base N x (defScope st) f cdv A outer s H E).nox (defBody st) t ∧ t { nx := fun _ H' => Q .non H', rt := Q } (start N vs) H) : FnOk P w K mg base CX0 (k + 1) f fd ps sp :=
  F.ok S len fun cdv A outer s H vs Q E hr h => by
    obtain ⟨t, h1, h2⟩ := hbody cdv A outer s H vs Q E hr h
    exact ⟨t, h1.nox, h2⟩
theorem sc_added : FnScope ["one", "other", "near", "far"] ["one", "other"] (defScope (top 19)) := ⟨rfl, rfl, rfl, by decide +kernel, rfl, by decide +kernel, by decide +kernel⟩
theorem ok_added (B : Bi mg) (F : FnP K "added" (top 19) f fd) : FnOk P w K mg base CX0 1 f fd ["one", "other"] spAdd := by
  refine ok0 F sc_added (fun vs H Q E h => by obtain ⟨_, _, _, _, rfl, _⟩ := h; rfl) (fun cdv A outer s H vs Q E hr h => ?_)
  obtain ⟨_, _, a, b, rfl, ha, hb, hl, hz, k⟩ := h
  obtain ⟨p, rfl, hp⟩ := ha.of_row
  obtain ⟨q, rfl, hq⟩ := hb.of_row
  refine ⟨(tRet (tCB (rTupQ K) (tCons (tLc (iZipA K (tCons (tVar 0) (tCons (tVar 1) tNil))) (gTup K 2 (gCons (gName 2) (gCons (gName 3) gNil))) tYes (tOp (rI0 fun i j => .int (i + j)) (tVar 2) (tVar 3)) [2, 3]) tNil))),
    (pss_one (ps_ret (pe_callTy call_tupQ (by rfl) B.tuple (by decide +kernel) (pa_cons (pe_lc (own := [("near", 2), ("far", 3)]) (g := (gTup K 2 (gCons (gName 2) (gCons (gName 3) gNil)))) (tt := tYes) (te := (tOp (rI0 fun i j => .int (i + j)) (tVar 2) (tVar 3))) rfl sc_added.nd (pi_zipA (by rfl) B.zip (pa_cons (pv 0) (pa_cons (pv 1) pa_nil))) (blkOk_by (N := ["one", "other", "near", "far"]) (sc := defScope (top 19)) (by decide +kernel)) (fun _ _ _ _ _ => (pg_tup rfl (pgs_cons (pg_name (i := 2) sc_added.nd rfl (by first | exact Or.inl rfl | exact Or.inr rfl)) (pgs_cons (pg_name (i := 3) sc_added.nd rfl (by first | exact Or.inl rfl | exact Or.inr rfl)) pgs_nil)))) (fun _ _ _ _ _ => pts_nil) (fun _ _ _ _ _ => (pe_op op_add (pv 2) (pv 3)))) pa_nil)))), ?_⟩
  refine ⟨_, rfl, _, rfl, p, q, _, _, rfl, .inr ⟨sqT hp, sqT hq, fun D hD => ?_⟩⟩
  refine rd_zip (fun i => .int ((add a b).getD i 0)) hp hq (by simp [hl]) (by simp; omega) hD (fun _ _ => rfl) ?_ ?_
  · intro m x y H2 Q2 ex ey e2 hQ
    obtain ⟨x, e3, rfl⟩ := getI ex
    obtain ⟨y, e4, rfl⟩ := getI ey
    refine ⟨_, rfl, _, rfl, x, y, rfl, rfl, ?_⟩
    have e := add_get e3 e4
    rw [List.getD_eq_getElem?_getD, e] at hQ
    exact hQ
  · intro H2 e2 hD2
    refine ⟨D, _, rfl, .inl ⟨sqL hD2, fun l hl2 => k.go (e2.trans (same_new hl2)) ?_⟩⟩
    refine At.row (l := add a b) ?_
    rw [upd_same, List.length_map, show a.length = (add a b).length by rw [add_len hl, hl], range_map]
theorem sc_less : FnScope ["one", "other", "near", "far"] ["one", "other"] (defScope (top 20)) := ⟨rfl, rfl, rfl, by decide +kernel, rfl, by decide +kernel, by decide +kernel⟩
theorem ok_less (B : Bi mg) (F : FnP K "less" (top 20) f fd) : FnOk P w K mg base CX0 1 f fd ["one", "other"] spSub := by
  refine ok0 F sc_less (fun vs H Q E h => by obtain ⟨_, _, _, _, rfl, _⟩ := h; rfl) (fun cdv A outer s H vs Q E hr h => ?_)
  obtain ⟨_, _, a, b, rfl, ha, hb, hl, hz, k⟩ := h
  obtain ⟨p, rfl, hp⟩ := ha.of_row
  obtain ⟨q, rfl, hq⟩ := hb.of_row
  refine ⟨(tRet (tCB (rTupQ K) (tCons (tLc (iZipA K (tCons (tVar 0) (tCons (tVar 1) tNil))) (gTup K 2 (gCons (gName 2) (gCons (gName 3) gNil))) tYes (tOp (rI0 fun i j => .int (i - j)) (tVar 2) (tVar 3)) [2, 3]) tNil))),
    (pss_one (ps_ret (pe_callTy call_tupQ (by rfl) B.tuple (by decide +kernel) (pa_cons (pe_lc (own := [("near", 2), ("far", 3)]) (g := (gTup K 2 (gCons (gName 2) (gCons (gName 3) gNil)))) (tt := tYes) (te := (tOp (rI0 fun i j => .int (i - j)) (tVar 2) (tVar 3))) rfl sc_less.nd (pi_zipA (by rfl) B.zip (pa_cons (pv 0) (pa_cons (pv 1) pa_nil))) (blkOk_by (N := ["one", "other", "near", "far"]) (sc := defScope (top 20)) (by decide +kernel)) (fun _ _ _ _ _ => (pg_tup rfl (pgs_cons (pg_name (i := 2) sc_less.nd rfl (by first | exact Or.inl rfl | exact Or.inr rfl)) (pgs_cons (pg_name (i := 3) sc_less.nd rfl (by first | exact Or.inl rfl | exact Or.inr rfl)) pgs_nil)))) (fun _ _ _ _ _ => pts_nil) (fun _ _ _ _ _ => (pe_op op_sub (pv 2) (pv 3)))) pa_nil)))), ?_⟩
  refine ⟨_, rfl, _, rfl, p, q, _, _, rfl, .inr ⟨sqT hp, sqT hq, fun D hD => ?_⟩⟩
  refine rd_zip (fun i => .int ((sub a b).getD i 0)) hp hq (by simp [hl]) (by simp; omega) hD (fun _ _ => rfl) ?_ ?_
  · intro m x y H2 Q2 ex ey e2 hQ
    obtain ⟨x, e3, rfl⟩ := getI ex
    obtain ⟨y, e4, rfl⟩ := getI ey
    refine ⟨_, rfl, _, rfl, x, y, rfl, rfl, ?_⟩
    have e := sub_get e3 e4
    rw [List.getD_eq_getElem?_getD, e] at hQ
    exact hQ
  · intro H2 e2 hD2
    refine ⟨D, _, rfl, .inl ⟨sqL hD2, fun l hl2 => k.go (e2.trans (same_new hl2)) ?_⟩⟩
    refine At.row (l := sub a b) ?_
    rw [upd_same, List.length_map, show a.length = (sub a b).length by rw [sub_len hl, hl], range_map]
/-! ## stair_from, row_from, up_stair -/
theorem sg_snoc : ∀ {us : List Int} {p : Int} {rs : List Int} {m : Nat} {u r : Int}, us[m]? = some u → rs[m]? = some r →
    (sg us p rs).take (m + 1) = (sg us p rs).take m ++ [u * ((p :: (sg us p rs).take m).getLastD 0) + r]
  | [], _, _, _, _, _, h, _ => by simp at h
  | _ :: _, _, [], _, _, _, _, h => by simp at h
  | v :: us, p, x :: rs, 0, u, r, h, k => by simp at h k; subst h k; simp [sg]
  | v :: us, p, x :: rs, m + 1, u, r, h, k => by
    simp at h k
    have ih := sg_snoc (us := us) (p := v * p + x) (rs := rs) h k
    simp only [sg, List.take_succ_cons, List.cons_append, List.cons.injEq, true_and]
    rw [ih]
    simp [List.getLastD]
theorem cut1 {xs : List V} : cutV xs (some 1) none = xs.drop 1 := by
  unfold cutV
  rw [show HT.sIx xs.length 0 (some 1) = min 1 xs.length from HT.sIx_nat xs.length 0 1, HT.sIx_none]
  cases xs with
  | nil => rfl
  | cons x r =>
    rw [show min 1 (x :: r).length = 1 by rw [List.length_cons]; omega]
    show (List.take ((x :: r).length - 1) r) = r
    rw [List.length_cons, Nat.add_sub_cancel]
    exact List.take_length
/-- t[1:] of a tuple that is not empty: the tuple of the rest, new -/
theorem rd_slice1 {H : Hp} {Q : VK} {a : Addr} {x : V} {xs : List V} (h : H a = some (.tup (x :: xs))) (q : ∀ p, H p = none → Q (.ref p) (upd H p (.tup xs))) : rSlA K (.ref a) (some 1) none H Q := by
  refine ⟨a, x :: xs, rfl, sqT h, fun z => ?_, fun _ p hp => ?_⟩
  · have z1 := z.1
    rw [show HT.sIx (x :: xs).length 0 (some 1) = min 1 (x :: xs).length from HT.sIx_nat _ 0 1] at z1
    simp at z1
  · rw [cut1]
    exact q p hp
theorem at_last {x : V} : ∀ {xs : List V}, atI (x :: xs) (-1) = some ((x :: xs).getLast (by simp)) := by
  intro xs
  have h : x :: xs = (x :: xs).dropLast ++ [(x :: xs).getLast (by simp)] := (List.dropLast_concat_getLast (by simp)).symm
  have k := atI_last (x :: xs).dropLast ((x :: xs).getLast (by simp))
  rw [← h] at k
  exact k
theorem getLast_int {x : Int} {xs : List Int} {h : (V.int x :: xs.map V.int) ≠ []} : (V.int x :: xs.map V.int).getLast h = V.int ((x :: xs).getLastD 0) := by
  have e : V.int x :: xs.map V.int = (x :: xs).map V.int := rfl
  simp only [e, List.getLast_map]
  rw [List.getLastD_eq_getLast?, List.getLast?_eq_some_getLast (by simp)]
  rfl
theorem lastD_cons {x : Int} {xs : List Int} : (x :: xs).getLastD 0 = (x :: xs).getLastD 0 := rfl
/-- units as the program takes them -/
def Us (us : List Int) : Prop := us.length ≤ 3 ∧ ∀ u ∈ us, 2 ≤ u ∧ u ≤ 10
theorem ps_of : ∀ {us : List Int}, (∀ u ∈ us, 2 ≤ u ∧ u ≤ 10) → Ps us
  | [], _ => trivial
  | u :: us, h => ⟨by have := h u List.mem_cons_self; omega, ps_of fun x hx => h x (List.mem_cons_of_mem _ hx)⟩
theorem Us.ps {us : List Int} (h : Us us) : Ps us := ps_of h.2
/-- units and a row come in, a row goes out -/
def spRow (F : List Int → List Int → List Int) : Sp := fun vs H Q _ => ∃ (u v : V) (us r : List Int), vs = [u, v] ∧ At H u (dR us) ∧ At H v (dR r) ∧ r.length = us.length + 1 ∧ Us us ∧ Ret H Q (dR (F us r))
theorem sc_stair_from : FnScope ["units", "row", "found", "ratio", "number"] ["units", "row"] (defScope (top 21)) := ⟨rfl, rfl, rfl, by decide +kernel, rfl, by decide +kernel, by decide +kernel⟩
theorem ok_stair_from (B : Bi mg) (F : FnP K "stair_from" (top 21) f fd) : FnOk P w K mg base CX0 1 f fd ["units", "row"] (spRow st) := by
  refine ok0 F sc_stair_from (fun vs H Q E h => by obtain ⟨_, _, _, _, rfl, _⟩ := h; rfl) (fun cdv A outer s H vs Q E hr h => ?_)
  obtain ⟨_, _, us, r, rfl, ha, hb, hl, hu, k⟩ := h
  have hz := hu.1
  obtain ⟨p, rfl, hp⟩ := ha.of_row
  obtain ⟨q, rfl, hq⟩ := hb.of_row
  cases r with
  | nil => simp at hl
  | cons x r =>
    have hl' : us.length = r.length := by simp at hl; omega
    refine ⟨(tSeq (tAsg (tLst (tCons (tOp (rIxT K) (tVar 1) (tC (.int 0))) tNil)) (gName 2))
  (tSeq (tFor (iZipA K (tCons (tVar 0) (tCons (tSlF K (tVar 1) (tC (.int 1))) tNil))) (gTup K 2 (gCons (gName 3) (gCons (gName 4) gNil))) (tDrop (tBM K "list" rAppend (tVar 2) (tCons (tOp (rI0 fun i j => .int (i + j)) (tOp (rI CMul fun i j => .int (i * j)) (tVar 3) (tOp (rIxL K) (tVar 2) (tUn (rU fun i => .int (-i)) (tC (.int 1))))) (tVar 4)) tNil))))
  (tRet (tCB (rTupQ K) (tCons (tVar 2) tNil))))),
    (pss_cons (ps_set (i := 2) sc_stair_from.nd rfl (by first | exact Or.inl rfl | exact Or.inr rfl) (pe_lst (pa_cons (pe_ix ix_tup (pv 1) pe_int (fun _ _ => rfl)) pa_nil)))
  (pss_cons (ps_for PassesOwn.never rfl (pi_zipA (by rfl) B.zip (pa_cons (pv 0) (pa_cons (pe_slF (pv 1) pe_int) pa_nil))) (pg_tup rfl (pgs_cons (pg_name (i := 3) sc_stair_from.nd rfl (by first | exact Or.inl rfl | exact Or.inr rfl)) (pgs_cons (pg_name (i := 4) sc_stair_from.nd rfl (by first | exact Or.inl rfl | exact Or.inr rfl)) pgs_nil)))
  (pss_one (ps_expr (pe_bm PySem.F.plainAttrs_list PySem.F.slot_list_append PySem.F.type_list_append mt_append (pv 2) (pa_cons (pe_op op_add (pe_op op_mul (pv 3) (pe_ix ix_list (pv 2) (pe_un un_neg pe_int) (fun _ _ => rfl))) (pv 4)) pa_nil)))))
  (pss_one (ps_ret (pe_callTy call_tupQ (by rfl) B.tuple (by decide +kernel) (pa_cons (pv 2) pa_nil)))))), ?_⟩
    -- found = [row[0]]
    refine ⟨_, rfl, q, _, 0, .int x, rfl, rfl, sqT hq, atI_nat (j := 0) rfl, small_ (by simp), fun l hl2 => ?_⟩
    have s1 : Same H (upd H l (.lst [.int x])) := same_new hl2
    -- the loop
    refine ⟨_, rfl, _, rfl, 1, rfl, rd_slice1 (s1 _ _ hq) fun t ht => ?_⟩
    have s2 : Same H (upd (upd H l (.lst [.int x])) t (.tup (r.map V.int))) := s1.trans (same_new ht)
    have nlt : l ≠ t := ne_of_none upd_same ht
    refine ⟨p, t, us.map V.int, r.map V.int, rfl, .inr ⟨sqT (s2 _ _ hp), sqT upd_same, ?_⟩⟩
    refine for_it (walk_zipT (n := us.length) (xs := us.map V.int) (ys := r.map V.int) (by simp [hl'])) (fun i σ H' => ∃ y3 y4, σ = [some (.ref p), some (.ref q), some (.ref l), y3, y4] ∧ Same H H' ∧ H' t = some (.tup (r.map V.int)) ∧ H' l = some (.lst ((x :: (sg us x r).take i).map V.int)))
      ⟨none, none, rfl, s2, upd_same, by rw [upd_ne nlt, upd_same]; rfl⟩ (fun i σ H' _ h => ?_) ?_ ?_
    · obtain ⟨_, _, _, e, et, _⟩ := h
      exact ⟨sqT (e _ _ hp), sqT et⟩
    · rintro i v σ H1 H2 hi ⟨y3, y4, rfl, e1, et, el⟩ ⟨T, v1, v2, rfl, nT, rfl, ex, ey⟩
      obtain ⟨u, e3, rfl⟩ := getI ex
      obtain ⟨r1, e4, rfl⟩ := getI ey
      have s3 : Same H1 (upd H1 T (.tup [.int u, .int r1])) := same_new nT
      have hui : -(2 ^ 64) < u ∧ u < 2 ^ 64 := by have := hu.2 u (List.mem_of_getElem? e3); omega
      have nlT : l ≠ T := ne_of_none el nT
      have ntl : t ≠ l := ne_of et el (by intro z; cases z)
      have el2 := s3 _ _ el
      refine ⟨T, _, rfl, sqT upd_same, rfl, _, _, rfl, _, _, rfl, rfl, ?_⟩
      refine ⟨_, rfl, .inl ⟨rfl, _, sqL el2⟩, _, rfl, _, rfl, 1, rfl, l, _, -1, _, rfl, rfl, sqL el2, at_last, u, _, rfl, getLast_int, .inl hui, _, rfl, _, r1, rfl, rfl, l, _, _, rfl, rfl, el2, ?_, ?_⟩
      · rw [List.length_map, List.length_cons, List.length_take]
        exact small' (by omega)
      · refine ⟨_, _, rfl, same_mut (e1.trans s3) hl2, ?_, ?_⟩
        · rw [upd_ne ntl]
          exact s3 _ _ et
        · rw [upd_same, List.map_cons, List.map_cons, sg_snoc e3 e4, List.map_append]
          simp [lastD_cons]
    · rintro σ H1 ⟨y3, y4, rfl, e1, et, el⟩
      refine ⟨_, rfl, l, _, rfl, .inl ⟨sqL el, fun m hm => k.go (e1.trans (same_new hm)) ?_⟩⟩
      refine At.row ?_
      rw [upd_same, List.take_of_length_le (by rw [sg_len hl']; omega)]
      simp [st, sg]
end
end K26
set_option Elab.async false
set_option linter.all false
set_option maxRecDepth 100000
set_option maxHeartbeats 4000000
namespace K26
open PySem PySem.Spec PyProof.Rows L2 RZ RT
theorem rg_snoc : ∀ {us : List Int} {p : Int} {cs : List Int} {m : Nat} {u c d : Int}, us[m]? = some u → cs[m]? = some c → (p :: cs)[m]? = some d →
    (rg us p cs).take (m + 1) = (rg us p cs).take m ++ [c - u * d]
  | [], _, _, _, _, _, _, h, _, _ => by simp at h
  | _ :: _, _, [], _, _, _, _, _, h, _ => by simp at h
  | v :: us, p, x :: cs, 0, u, c, d, h, k, e => by simp at h k e; subst h k e; simp [rg]
  | v :: us, p, x :: cs, m + 1, u, c, d, h, k, e => by
    simp only [List.getElem?_cons_succ] at h k e
    have ih := rg_snoc (us := us) (p := x) (cs := cs) h k e
    simp only [rg, List.take_succ_cons, List.cons_append, List.cons.injEq, true_and]
    exact ih
theorem ug_snoc : ∀ {us : List Int} {p : Int} {rs : List Int} {m : Nat} {u r : Int}, us[m]? = some u → rs[m]? = some r →
    (ug us p rs).take (m + 1) = (ug us p rs).take m ++ [max r (u * ((p :: (ug us p rs).take m).getLastD 0))]
  | [], _, _, _, _, _, h, _ => by simp at h
  | _ :: _, _, [], _, _, _, _, h => by simp at h
  | v :: us, p, x :: rs, 0, u, r, h, k => by simp at h k; subst h k; simp [ug]
  | v :: us, p, x :: rs, m + 1, u, r, h, k => by
    simp at h k
    have ih := ug_snoc (us := us) (p := max x (v * p)) (rs := rs) h k
    simp only [ug, List.take_succ_cons, List.cons_append, List.cons.injEq, true_and]
    rw [ih]
    simp [List.getLastD]
theorem getT {l : List Int} {i : Nat} {x : Int} (h : l[i]? = some x) : (l.map V.int)[i]? = some (.int x) := by
  rw [List.getElem?_map, h]
  rfl
section
variable {P : Program} {w : World} {K : PySem.W.Frag} {mg : Str → Option Value} {base : Heap} {f : Addr} {fd : FuncData}
theorem sc_row_from : FnScope ["units", "stair", "found", "index", "ratio"] ["units", "stair"] (defScope (top 22)) := ⟨rfl, rfl, rfl, by decide +kernel, rfl, by decide +kernel, by decide +kernel⟩
theorem ok_row_from (B : Bi mg) (F : FnP K "row_from" (top 22) f fd) : FnOk P w K mg base CX0 1 f fd ["units", "stair"] (spRow ro) := by
  refine ok0 F sc_row_from (fun vs H Q E h => by obtain ⟨_, _, _, _, rfl, _⟩ := h; rfl) (fun cdv A outer s H vs Q E hr h => ?_)
  obtain ⟨_, _, us, r, rfl, ha, hb, hl, hu, k⟩ := h
  have hz := hu.1
  obtain ⟨p, rfl, hp⟩ := ha.of_row
  obtain ⟨q, rfl, hq⟩ := hb.of_row
  cases r with
  | nil => simp at hl
  | cons x r =>
    have hl' : us.length = r.length := by simp at hl; omega
    refine ⟨(tSeq (tAsg (tLst (tCons (tOp (rIxT K) (tVar 1) (tC (.int 0))) tNil)) (gName 2))
  (tSeq (tFor (iEnumT K (tCons (tVar 0) tNil)) (gTup K 2 (gCons (gName 3) (gCons (gName 4) gNil))) (tDrop (tBM K "list" rAppend (tVar 2) (tCons (tOp (rI0 fun i j => .int (i - j)) (tOp (rIxT K) (tVar 1) (tOp (rI0 fun i j => .int (i + j)) (tVar 3) (tC (.int 1)))) (tOp (rI CMul fun i j => .int (i * j)) (tVar 4) (tOp (rIxT K) (tVar 1) (tVar 3)))) tNil))))
  (tRet (tCB (rTupQ K) (tCons (tVar 2) tNil))))),
    (pss_cons (ps_set (i := 2) sc_row_from.nd rfl (by first | exact Or.inl rfl | exact Or.inr rfl) (pe_lst (pa_cons (pe_ix ix_tup (pv 1) pe_int (fun _ _ => rfl)) pa_nil)))
  (pss_cons (ps_for PassesOwn.never rfl (pi_enumT (by rfl) B.enumerate (pa_cons (pv 0) pa_nil)) (pg_tup rfl (pgs_cons (pg_name (i := 3) sc_row_from.nd rfl (by first | exact Or.inl rfl | exact Or.inr rfl)) (pgs_cons (pg_name (i := 4) sc_row_from.nd rfl (by first | exact Or.inl rfl | exact Or.inr rfl)) pgs_nil)))
  (pss_one (ps_expr (pe_bm PySem.F.plainAttrs_list PySem.F.slot_list_append PySem.F.type_list_append mt_append (pv 2) (pa_cons (pe_op op_sub (pe_ix ix_tup (pv 1) (pe_op op_add (pv 3) pe_int) (fun _ _ => rfl)) (pe_op op_mul (pv 4) (pe_ix ix_tup (pv 1) (pv 3) (fun _ _ => rfl)))) pa_nil)))))
  (pss_one (ps_ret (pe_callTy call_tupQ (by rfl) B.tuple (by decide +kernel) (pa_cons (pv 2) pa_nil)))))), ?_⟩
    refine ⟨_, rfl, q, _, 0, .int x, rfl, rfl, sqT hq, atI_nat (j := 0) rfl, small_ (by simp), fun l hl2 => ?_⟩
    have s1 : Same H (upd H l (.lst [.int x])) := same_new hl2
    refine ⟨_, rfl, p, us.map V.int, rfl, sqT (s1 _ _ hp), ?_⟩
    refine for_it walk_enumT (fun i σ H' => ∃ y3 y4, σ = [some (.ref p), some (.ref q), some (.ref l), y3, y4] ∧ Same H H' ∧ H' l = some (.lst ((x :: (rg us x r).take i).map V.int)))
      ⟨none, none, rfl, s1, upd_same⟩ (fun i σ H' _ h => ?_) ?_ ?_
    · obtain ⟨_, _, _, e, _⟩ := h
      exact sqT (e _ _ hp)
    · rintro i v σ H1 H2 hi ⟨y3, y4, rfl, e1, el⟩ ⟨T, v1, v2, rfl, nT, rfl, ex, ey⟩
      obtain ⟨u, e3, rfl⟩ := getI ey
      cases ex
      have s3 : Same H1 (upd H1 T (.tup [.int (i : Nat), .int u])) := same_new nT
      have hui : -(2 ^ 64) < u ∧ u < 2 ^ 64 := by have := hu.2 u (List.mem_of_getElem? e3); omega
      have nlT : l ≠ T := ne_of_none el nT
      have el2 := s3 _ _ el
      have hq2 := s3 _ _ (e1 _ _ hq)
      have hi' : i < r.length := by simp at hi; omega
      have c1 : r[i]? = some r[i] := List.getElem?_eq_getElem hi'
      have d1 : (x :: r)[i]? = some (x :: r)[i] := List.getElem?_eq_getElem (by simp; omega)
      refine ⟨T, _, rfl, sqT upd_same, rfl, _, _, rfl, _, _, rfl, rfl, ?_⟩
      refine ⟨_, rfl, .inl ⟨rfl, _, sqL el2⟩, _, rfl, _, rfl, _, _, rfl, rfl, q, _, _, _, rfl, rfl, sqT hq2, atI_nat (j := i + 1) (getT (x := r[i]) (by simpa using c1)), ?_⟩
      refine ⟨_, rfl, _, rfl, _, rfl, q, _, _, _, rfl, rfl, sqT hq2, atI_nat (j := i) (getT d1), u, _, rfl, rfl, .inl hui, _, _, rfl, rfl, l, _, _, rfl, rfl, el2, ?_, ?_⟩
      · rw [List.length_map, List.length_cons, List.length_take]
        exact small' (by omega)
      · refine ⟨_, _, rfl, same_mut (e1.trans s3) hl2, ?_⟩
        rw [upd_same, List.map_cons, List.map_cons, rg_snoc e3 c1 d1, List.map_append]
        rfl
    · rintro σ H1 ⟨y3, y4, rfl, e1, el⟩
      refine ⟨_, rfl, l, _, rfl, .inl ⟨sqL el, fun m hm => k.go (e1.trans (same_new hm)) ?_⟩⟩
      refine At.row ?_
      rw [upd_same, List.length_map, List.take_of_length_le (by rw [rg_len hl']; omega)]
      simp [ro, rg]
theorem sc_up_stair : FnScope ["units", "numbers", "found", "ratio", "number"] ["units", "numbers"] (defScope (top 24)) := ⟨rfl, rfl, rfl, by decide +kernel, rfl, by decide +kernel, by decide +kernel⟩
theorem ok_up_stair (B : Bi mg) (F : FnP K "up_stair" (top 24) f fd) : FnOk P w K mg base CX0 1 f fd ["units", "numbers"] (spRow up) := by
  refine ok0 F sc_up_stair (fun vs H Q E h => by obtain ⟨_, _, _, _, rfl, _⟩ := h; rfl) (fun cdv A outer s H vs Q E hr h => ?_)
  obtain ⟨_, _, us, r, rfl, ha, hb, hl, hu, k⟩ := h
  have hz := hu.1
  obtain ⟨p, rfl, hp⟩ := ha.of_row
  obtain ⟨q, rfl, hq⟩ := hb.of_row
  cases r with
  | nil => simp at hl
  | cons x r =>
    have hl' : us.length = r.length := by simp at hl; omega
    refine ⟨(tSeq (tAsg (tLst (tCons (tCB rMax2Q (tCons (tC (.int 0)) (tCons (tOp (rIxT K) (tVar 1) (tC (.int 0))) tNil))) tNil)) (gName 2))
  (tSeq (tFor (iZipA K (tCons (tVar 0) (tCons (tSlF K (tVar 1) (tC (.int 1))) tNil))) (gTup K 2 (gCons (gName 3) (gCons (gName 4) gNil))) (tDrop (tBM K "list" rAppend (tVar 2) (tCons (tCB rMax2Q (tCons (tVar 4) (tCons (tOp (rI CMul fun i j => .int (i * j)) (tVar 3) (tOp (rIxL K) (tVar 2) (tUn (rU fun i => .int (-i)) (tC (.int 1))))) tNil))) tNil))))
  (tRet (tCB (rTupQ K) (tCons (tVar 2) tNil))))),
    (pss_cons (ps_set (i := 2) sc_up_stair.nd rfl (by first | exact Or.inl rfl | exact Or.inr rfl) (pe_lst (pa_cons (pe_callB (call_max2Q rfl) (by rfl) B.max (by decide +kernel) (pa_cons pe_int (pa_cons (pe_ix ix_tup (pv 1) pe_int (fun _ _ => rfl)) pa_nil))) pa_nil)))
  (pss_cons (ps_for PassesOwn.never rfl (pi_zipA (by rfl) B.zip (pa_cons (pv 0) (pa_cons (pe_slF (pv 1) pe_int) pa_nil))) (pg_tup rfl (pgs_cons (pg_name (i := 3) sc_up_stair.nd rfl (by first | exact Or.inl rfl | exact Or.inr rfl)) (pgs_cons (pg_name (i := 4) sc_up_stair.nd rfl (by first | exact Or.inl rfl | exact Or.inr rfl)) pgs_nil)))
  (pss_one (ps_expr (pe_bm PySem.F.plainAttrs_list PySem.F.slot_list_append PySem.F.type_list_append mt_append (pv 2) (pa_cons (pe_callB (call_max2Q rfl) (by rfl) B.max (by decide +kernel) (pa_cons (pv 4) (pa_cons (pe_op op_mul (pv 3) (pe_ix ix_list (pv 2) (pe_un un_neg pe_int) (fun _ _ => rfl))) pa_nil))) pa_nil)))))
  (pss_one (ps_ret (pe_callTy call_tupQ (by rfl) B.tuple (by decide +kernel) (pa_cons (pv 2) pa_nil)))))), ?_⟩
    refine ⟨_, rfl, q, _, 0, .int x, rfl, rfl, sqT hq, atI_nat (j := 0) rfl, _, _, rfl, small_ (by simp), fun l hl2 => ?_⟩
    have s1 : Same H (upd H l (.lst [.int (max 0 x)])) := same_new hl2
    refine ⟨_, rfl, _, rfl, 1, rfl, rd_slice1 (s1 _ _ hq) fun t ht => ?_⟩
    have s2 : Same H (upd (upd H l (.lst [.int (max 0 x)])) t (.tup (r.map V.int))) := s1.trans (same_new ht)
    have nlt : l ≠ t := ne_of_none upd_same ht
    refine ⟨p, t, us.map V.int, r.map V.int, rfl, .inr ⟨sqT (s2 _ _ hp), sqT upd_same, ?_⟩⟩
    refine for_it (walk_zipT (n := us.length) (xs := us.map V.int) (ys := r.map V.int) (by simp [hl'])) (fun i σ H' => ∃ y3 y4, σ = [some (.ref p), some (.ref q), some (.ref l), y3, y4] ∧ Same H H' ∧ H' t = some (.tup (r.map V.int)) ∧ H' l = some (.lst ((max 0 x :: (ug us (max 0 x) r).take i).map V.int)))
      ⟨none, none, rfl, s2, upd_same, by rw [upd_ne nlt, upd_same]; rfl⟩ (fun i σ H' _ h => ?_) ?_ ?_
    · obtain ⟨_, _, _, e, et, _⟩ := h
      exact ⟨sqT (e _ _ hp), sqT et⟩
    · rintro i v σ H1 H2 hi ⟨y3, y4, rfl, e1, et, el⟩ ⟨T, v1, v2, rfl, nT, rfl, ex, ey⟩
      obtain ⟨u, e3, rfl⟩ := getI ex
      obtain ⟨r1, e4, rfl⟩ := getI ey
      have s3 : Same H1 (upd H1 T (.tup [.int u, .int r1])) := same_new nT
      have hui : -(2 ^ 64) < u ∧ u < 2 ^ 64 := by have := hu.2 u (List.mem_of_getElem? e3); omega
      have nlT : l ≠ T := ne_of_none el nT
      have ntl : t ≠ l := ne_of et el (by intro z; cases z)
      have el2 := s3 _ _ el
      refine ⟨T, _, rfl, sqT upd_same, rfl, _, _, rfl, _, _, rfl, rfl, ?_⟩
      refine ⟨_, rfl, .inl ⟨rfl, _, sqL el2⟩, _, rfl, _, rfl, _, rfl, 1, rfl, l, _, -1, _, rfl, rfl, sqL el2, at_last, u, _, rfl, getLast_int, .inl hui, _, _, rfl, l, _, _, rfl, rfl, el2, ?_, ?_⟩
      · rw [List.length_map, List.length_cons, List.length_take]
        exact small' (by omega)
      · refine ⟨_, _, rfl, same_mut (e1.trans s3) hl2, ?_, ?_⟩
        · rw [upd_ne ntl]
          exact s3 _ _ et
        · rw [upd_same, List.map_cons, List.map_cons, ug_snoc e3 e4, List.map_append]
          rfl
    · rintro σ H1 ⟨y3, y4, rfl, e1, et, el⟩
      refine ⟨_, rfl, l, _, rfl, .inl ⟨sqL el, fun m hm => k.go (e1.trans (same_new hm)) ?_⟩⟩
      refine At.row ?_
      rw [upd_same, List.take_of_length_le (by rw [ug_len hl']; omega)]
      simp [up, ug, Int.max_comm]
end
end K26
set_option Elab.async false
set_option linter.all false
set_option maxRecDepth 100000
set_option maxHeartbeats 4000000
namespace K26
open PySem PySem.Spec PyProof.Rows L2 RZ RT
def dO : Option (List Int) → PyData
  | none => .none
  | some l => dR l
def downs (us d : List Int) : Option (List Int) := if isN d then none else some (dn us d)
theorem foldl_min_neg : ∀ (ns : List Int) (n : Int), decide (ns.foldl min n < 0) = isN (n :: ns)
  | [], n => by
    show decide (n < 0) = (decide (n < 0) || false)
    rw [Bool.or_false]
  | m :: ns, n => by
    rw [List.foldl_cons, foldl_min_neg ns (min n m)]
    simp only [isN]
    by_cases h1 : n < 0
    · by_cases h2 : m < 0
      · have : min n m < 0 := by omega
        simp [h1, h2, this]
      · have : min n m < 0 := by omega
        simp [h1, h2, this]
    · by_cases h2 : m < 0
      · have : min n m < 0 := by omega
        simp [h1, h2, this]
      · have : ¬ min n m < 0 := by omega
        simp [h1, h2, this]
theorem dn_ne {us ds : List Int} (h : ds ≠ []) : dn us ds ≠ [] := by
  intro z
  have := dn_len (us := us) (ds := ds)
  rw [z] at this
  exact h (List.eq_nil_of_length_eq_zero (by simpa using this.symm))
theorem dn_step {us ds : List Int} {j : Nat} {u d : Int} (hu : us[j]? = some u) (hd : ds[j]? = some d) : dn (us.drop j) (ds.drop j) = min d ((dn (us.drop (j + 1)) (ds.drop (j + 1))).headD 0 / u) :: dn (us.drop (j + 1)) (ds.drop (j + 1)) := by
  obtain ⟨h1, e1⟩ := List.getElem?_eq_some_iff.mp hu
  obtain ⟨h2, e2⟩ := List.getElem?_eq_some_iff.mp hd
  rw [List.drop_eq_getElem_cons h1, List.drop_eq_getElem_cons h2, e1, e2]
  rfl
theorem rev_last {l : List Int} (h : l ≠ []) : atI (l.reverse.map V.int) (-1) = some (.int (l.headD 0)) := by
  cases l with
  | nil => exact absurd rfl h
  | cons x xs =>
    rw [List.reverse_cons, List.map_append]
    exact atI_last _ _
def spDown : Sp := fun vs H Q _ => ∃ (u v : V) (us r : List Int), vs = [u, v] ∧ At H u (dR us) ∧ At H v (dR r) ∧ r.length = us.length + 1 ∧ Us us ∧ Ret H Q (dO (downs us r))
section
variable {P : Program} {w : World} {K : PySem.W.Frag} {mg : Str → Option Value} {base : Heap} {f : Addr} {fd : FuncData}
theorem sc_down_stair : FnScope ["units", "numbers", "found", "index"] ["units", "numbers"] (defScope (top 25)) := ⟨rfl, rfl, rfl, by decide +kernel, rfl, by decide +kernel, by decide +kernel⟩
theorem ok_down_stair (B : Bi mg) (F : FnP K "down_stair" (top 25) f fd) : FnOk P w K mg base CX0 1 f fd ["units", "numbers"] spDown := by
  refine ok0 F sc_down_stair (fun vs H Q E h => by obtain ⟨_, _, _, _, rfl, _⟩ := h; rfl) (fun cdv A outer s H vs Q E hr h => ?_)
  obtain ⟨_, _, us, r, rfl, ha, hb, hl, hu, k⟩ := h
  have hz := hu.1
  obtain ⟨p, rfl, hp⟩ := ha.of_row
  obtain ⟨q, rfl, hq⟩ := hb.of_row
  cases r with
  | nil => simp at hl
  | cons x r =>
    refine ⟨(tSeq (tIfS (tTest (tOp (rI0 fun i j => .bl (decide (i < j))) (tCB (rMinT K) (tCons (tVar 1) tNil)) (tC (.int 0)))) (tRet (tC .non)) tNext)
  (tSeq (tAsg (tLst (tCons (tOp (rIxT K) (tVar 1) (tUn (rU fun i => .int (-i)) (tC (.int 1)))) tNil)) (gName 2))
  (tSeq (tFor (iRevR (tRg1 (tCB (rLenQ K) (tCons (tVar 0) tNil)))) (gName 3) (tDrop (tBM K "list" rAppend (tVar 2) (tCons (tCB rMin2Q (tCons (tOp (rIxT K) (tVar 1) (tVar 3)) (tCons (tOp (rI CDiv fun i j => .int (i / j)) (tOp (rIxL K) (tVar 2) (tUn (rU fun i => .int (-i)) (tC (.int 1)))) (tOp (rIxT K) (tVar 0) (tVar 3))) tNil))) tNil))))
  (tRet (tTupRev K (tVar 2)))))),
    (pss_cons (ps_if (pt_cmpR op_lt (pe_callB (call_minT rfl hr.units) (by rfl) B.min (by decide +kernel) (pa_cons (pv 1) pa_nil)) pe_int (nomark _))
  (pss_one (ps_ret pe_non))
  pss_nil)
  (pss_cons (ps_set (i := 2) sc_down_stair.nd rfl (by first | exact Or.inl rfl | exact Or.inr rfl) (pe_lst (pa_cons (pe_ix ix_tup (pv 1) (pe_un un_neg pe_int) (fun _ _ => rfl)) pa_nil)))
  (pss_cons (ps_for PassesOwn.never rfl (pi_revR (by rfl) B.reversed (prg_1 (by rfl) B.range (pe_callB call_lenQ (by rfl) B.len (by decide +kernel) (pa_cons (pv 0) pa_nil)))) (pg_name (i := 3) sc_down_stair.nd rfl (by first | exact Or.inl rfl | exact Or.inr rfl))
  (pss_one (ps_expr (pe_bm PySem.F.plainAttrs_list PySem.F.slot_list_append PySem.F.type_list_append mt_append (pv 2) (pa_cons (pe_callB (call_min2Q rfl) (by rfl) B.min (by decide +kernel) (pa_cons (pe_ix ix_tup (pv 1) (pv 3) (fun _ _ => rfl)) (pa_cons (pe_op op_fdiv (pe_ix ix_list (pv 2) (pe_un un_neg pe_int) (fun _ _ => rfl)) (pe_ix ix_tup (pv 0) (pv 3) (fun _ _ => rfl))) pa_nil))) pa_nil)))))
  (pss_one (ps_ret (pe_tupRev rfl (by rfl) B.tuple (by rfl) B.reversed (pv 2))))))), ?_⟩
    refine ⟨_, rfl, q, x, r, rfl, sqT hq, by simp at hl ⊢; omega, _, _, rfl, rfl, _, rfl, ?_⟩
    rw [foldl_min_neg]
    cases hn : isN (x :: r) with
    | true =>
      refine iteT ?_
      refine k.go (Same.refl H) ?_
      rw [downs, hn]
      exact .non
    | false =>
      refine iteF ?_
      have hlast : (x :: r)[us.length]? = some ((x :: r)[us.length]'(by omega)) := List.getElem?_eq_getElem (by omega)
      have hd0 : (x :: r).drop us.length = [(x :: r)[us.length]'(by omega)] := by
        rw [List.drop_eq_getElem_cons (by omega)]
        congr 1
        exact List.drop_eq_nil_of_le (by omega)
      have hat : atI ((x :: r).map V.int) (-1) = some (.int ((x :: r)[us.length]'(by omega))) := by
        have e : (x :: r) = (x :: r).take us.length ++ [(x :: r)[us.length]'(by omega)] := by
          rw [← hd0, List.take_append_drop]
        have k2 := atI_last ((x :: r).take us.length |>.map V.int) (V.int ((x :: r)[us.length]'(by omega)))
        rw [← List.map_singleton, ← List.map_append, ← e] at k2
        exact k2
      refine ⟨_, rfl, 1, rfl, q, _, -1, _, rfl, rfl, sqT hq, hat, small_ (by simp), fun l hl2 => ?_⟩
      have s1 : Same H (upd H l (.lst [.int ((x :: r)[us.length]'(by omega))])) := same_new hl2
      refine ⟨_, rfl, p, us.map V.int, rfl, .inr (sqT (s1 _ _ hp)), _, rfl, by omega, by omega, by rw [List.length_map]; omega, by rw [List.length_map]; omega, ?_⟩
      refine for_it walk_rangeC (fun i σ H' => ∃ y3, σ = [some (.ref p), some (.ref q), some (.ref l), y3] ∧ Same H H' ∧ H' l = some (.lst ((dn (us.drop (us.length - i)) ((x :: r).drop (us.length - i))).reverse.map V.int)))
        ⟨none, rfl, s1, ?_⟩ (fun i σ H' _ h => trivial) ?_ ?_
      · rw [upd_same, Nat.sub_zero, hd0, List.drop_length]
        rfl
      · rintro i v σ H1 H2 hi ⟨y3, rfl, e1, el⟩ ⟨rfl, rfl⟩
        have hi' : i < us.length := by simpa using hi
        have ej : us.length - i = (us.length - 1 - i) + 1 := by omega
        have cu : us[us.length - 1 - i]? = some (us[us.length - 1 - i]'(by omega)) := List.getElem?_eq_getElem (by omega)
        have cd : (x :: r)[us.length - 1 - i]? = some ((x :: r)[us.length - 1 - i]'(by omega)) := List.getElem?_eq_getElem (by omega)
        have hui := hu.2 _ (List.mem_of_getElem? cu)
        have eix : (0 + ((((us.map V.int).length : Nat) : Int) - 0).toNat : Int) - 1 + (i : Nat) * (-1) = ((us.length - 1 - i : Nat) : Int) := by rw [List.length_map]; omega
        have ne : dn (us.drop (us.length - i)) ((x :: r).drop (us.length - i)) ≠ [] := dn_ne (by
          intro z
          have := congrArg List.length z
          rw [List.length_drop, List.length_nil] at this
          omega)
        dsimp only
        rw [eix]
        refine ⟨_, rfl, .inl ⟨rfl, _, sqL el⟩, _, rfl, _, rfl, q, _, _, _, rfl, rfl, sqT (e1 _ _ hq), atI_nat (getT cd), ?_⟩
        refine ⟨_, rfl, 1, rfl, l, _, -1, _, rfl, rfl, sqL el, rev_last ne, _, rfl, _, rfl, p, _, _, _, rfl, rfl, sqT (e1 _ _ hp), atI_nat (getT cu), _, _, rfl, rfl, ⟨by omega, by omega⟩, _, _, rfl, l, _, _, rfl, rfl, el, ?_, ?_⟩
        · rw [List.length_map, List.length_reverse, dn_len, List.length_drop]
          exact small' (by omega)
        · refine ⟨_, rfl, same_mut e1 hl2, ?_⟩
          rw [upd_same, show us.length - (i + 1) = us.length - 1 - i by omega, dn_step cu cd, ← ej, List.reverse_cons, List.map_append]
          rfl
      · rintro σ H1 ⟨y3, rfl, e1, el⟩
        refine ⟨_, rfl, l, _, rfl, sqL el, fun m hm => k.go (e1.trans (same_new hm)) ?_⟩
        rw [downs, hn]
        refine At.row ?_
        rw [upd_same]
        simp
end
end K26
set_option Elab.async false
set_option linter.all false
set_option maxRecDepth 100000
set_option maxHeartbeats 4000000
namespace K26
open PySem PySem.Spec PyProof.Rows L2 RZ RT
def spZer : Sp := fun vs H Q _ => ∃ (u : V) (us : List Int), vs = [u] ∧ At H u (dR us) ∧ us.length ≤ 3 ∧ Ret H Q (dR (zer us))
def spRow3 (F : List Int → List Int → List Int → PyData) : Sp := fun vs H Q _ => ∃ (u v x : V) (us a b : List Int), vs = [u, v, x] ∧ At H u (dR us) ∧ At H v (dR a) ∧ At H x (dR b) ∧ a.length = us.length + 1 ∧ b.length = us.length + 1 ∧ Us us ∧ Ret H Q (F us a b)
theorem zer_flat (n : Nat) : (List.replicate n [V.int 0]).flatten = (List.replicate n (0 : Int)).map V.int := by
  induction n with
  | zero => rfl
  | succ n ih => rw [List.replicate_succ, List.flatten_cons, ih, List.replicate_succ]; rfl
section
variable {P : Program} {w : World} {K : PySem.W.Frag} {mg : Str → Option Value} {base : Heap} {f : Addr} {fd : FuncData}
theorem sc_zeros_of : FnScope ["units"] ["units"] (defScope (top 18)) := ⟨rfl, rfl, rfl, by decide +kernel, rfl, by decide +kernel, by decide +kernel⟩
theorem ok_zeros_of (B : Bi mg) (F : FnP K "zeros_of" (top 18) f fd) : FnOk P w K mg base CX0 1 f fd ["units"] spZer := by
  refine ok0 F sc_zeros_of (fun vs H Q E h => by obtain ⟨_, _, rfl, _⟩ := h; rfl) (fun cdv A outer s H vs Q E hr h => ?_)
  obtain ⟨_, us, rfl, ha, hl, k⟩ := h
  obtain ⟨p, rfl, hp⟩ := ha.of_row
  refine ⟨(tRet (tOp (rRepQ K) (tTup (tCons (tC (.int 0)) tNil)) (tOp (rI0 fun i j => .int (i + j)) (tCB (rLenQ K) (tCons (tVar 0) tNil)) (tC (.int 1))))),
    (pss_one (ps_ret (pe_op op_repT1 (pe_tup (pa_cons pe_int pa_nil)) (pe_op op_add (pe_callB call_lenQ (by rfl) B.len (by decide +kernel) (pa_cons (pv 0) pa_nil)) pe_int)))), ?_⟩
  refine ⟨small_ (by simp), fun l hl2 => ?_⟩
  have s1 : Same H (upd H l (.tup [.int 0])) := same_new hl2
  refine ⟨_, rfl, p, _, rfl, .inr (sqT (s1 _ _ hp)), _, _, rfl, rfl, l, _, _, rfl, rfl, sqT upd_same, by simp, by simp; omega, by simp; omega, by simp, fun e => ?_, fun e m hm => ?_⟩
  · refine k.go s1 (At.row ?_)
    rw [upd_same]
    have : us.length = 0 := by simp at e; omega
    simp [zer, this]
  · refine k.go (s1.trans (same_new hm)) (At.row ?_)
    rw [upd_same, zer_flat, zer]
    congr 4
    simp
theorem sc_lack_row : FnScope ["units", "order", "stock"] ["units", "order", "stock"] (defScope (top 26)) := ⟨rfl, rfl, rfl, by decide +kernel, rfl, by decide +kernel, by decide +kernel⟩
theorem ok_lack_row (B : Bi mg) (C_row_from : Cal P w K mg base CX0 1 "row_from" ["units", "stair"] (spRow ro)) (C_up_stair : Cal P w K mg base CX0 1 "up_stair" ["units", "numbers"] (spRow up))
    (C_less : Cal P w K mg base CX0 1 "less" ["one", "other"] spSub) (C_stair_from : Cal P w K mg base CX0 1 "stair_from" ["units", "row"] (spRow st)) (F : FnP K "lack_row" (top 26) f fd) :
    FnOk P w K mg base CX0 2 f fd ["units", "order", "stock"] (spRow3 fun us a b => dR (lk us a b)) := by
  refine ok0 F sc_lack_row (fun vs H Q E h => by obtain ⟨_, _, _, _, _, _, rfl, _⟩ := h; rfl) (fun cdv A outer s H vs Q E hr h => ?_)
  obtain ⟨u, v, x, us, a, b, rfl, hu, ha, hb, la, lb, hU, k⟩ := h
  have l1 := st_len la
  have l2 := st_len lb
  have l3 : (sub (st us a) (st us b)).length = us.length + 1 := by rw [sub_len (by omega)]; omega
  have l4 : (up us (sub (st us a) (st us b))).length = us.length + 1 := by unfold up; rw [ug_len (by simp [l3]), l3]
  have hz := hU.1
  refine ⟨(tRet (tCall (spRow ro) [] E0 (tCons (tVar 0) (tCons (tCall (spRow up) [] E0 (tCons (tVar 0) (tCons (tCall spSub [] E0 (tCons (tCall (spRow st) [] E0 (tCons (tVar 0) (tCons (tVar 1) tNil))) (tCons (tCall (spRow st) [] E0 (tCons (tVar 0) (tCons (tVar 2) tNil))) tNil))) tNil))) tNil)))),
    (pss_one (ps_ret (pe_cal C_row_from hr (by first | decide | omega) (by rfl) pass0 (pa_cons (pv 0) (pa_cons (pe_cal C_up_stair hr (by first | decide | omega) (by rfl) pass0 (pa_cons (pv 0) (pa_cons (pe_cal C_less hr (by first | decide | omega) (by rfl) pass0 (pa_cons (pe_cal C_stair_from hr (by first | decide | omega) (by rfl) pass0 (pa_cons (pv 0) (pa_cons (pv 1) pa_nil))) (pa_cons (pe_cal C_stair_from hr (by first | decide | omega) (by rfl) pass0 (pa_cons (pv 0) (pa_cons (pv 2) pa_nil))) pa_nil))) pa_nil))) pa_nil))))), ?_⟩
  refine ⟨_, rfl, _, rfl, _, rfl, _, rfl, _, _, us, a, rfl, hu, ha, la, hU, fun v1 H1 e1 a1 => ?_⟩
  refine ⟨_, rfl, _, rfl, _, _, us, b, rfl, hu.mono e1, hb.mono e1, lb, hU, fun v2 H2 e2 a2 => ?_⟩
  refine ⟨_, _, _, _, rfl, a1.mono e2, a2, by omega, by omega, fun v3 H3 e3 a3 => ?_⟩
  have e13 := e1.trans (e2.trans e3)
  refine ⟨_, _, us, _, rfl, hu.mono e13, a3, l3, hU, fun v4 H4 e4 a4 => ?_⟩
  refine ⟨_, _, us, _, rfl, hu.mono (e13.trans e4), a4, l4, hU, fun v5 H5 e5 a5 => ?_⟩
  exact k.go ((e13.trans e4).trans e5) a5
theorem sc_rest_row : FnScope ["units", "stock", "order", "found"] ["units", "stock", "order"] (defScope (top 27)) := ⟨rfl, rfl, rfl, by decide +kernel, rfl, by decide +kernel, by decide +kernel⟩
theorem ok_rest_row (B : Bi mg) (C_row_from : Cal P w K mg base CX0 1 "row_from" ["units", "stair"] (spRow ro)) (C_down_stair : Cal P w K mg base CX0 1 "down_stair" ["units", "numbers"] spDown)
    (C_less : Cal P w K mg base CX0 1 "less" ["one", "other"] spSub) (C_stair_from : Cal P w K mg base CX0 1 "stair_from" ["units", "row"] (spRow st)) (F : FnP K "rest_row" (top 27) f fd) :
    FnOk P w K mg base CX0 2 f fd ["units", "stock", "order"] (spRow3 fun us a b => dO (rest us a b)) := by
  refine ok0 F sc_rest_row (fun vs H Q E h => by obtain ⟨_, _, _, _, _, _, rfl, _⟩ := h; rfl) (fun cdv A outer s H vs Q E hr h => ?_)
  obtain ⟨u, v, x, us, a, b, rfl, hu, ha, hb, la, lb, hU, k⟩ := h
  have l1 := st_len la
  have l2 := st_len lb
  have l3 : (sub (st us a) (st us b)).length = us.length + 1 := by rw [sub_len (by omega)]; omega
  have hz := hU.1
  refine ⟨(tSeq (tAsg (tCall spDown [] E0 (tCons (tVar 0) (tCons (tCall spSub [] E0 (tCons (tCall (spRow st) [] E0 (tCons (tVar 0) (tCons (tVar 1) tNil))) (tCons (tCall (spRow st) [] E0 (tCons (tVar 0) (tCons (tVar 2) tNil))) tNil))) tNil))) (gName 3))
  (tRet (tIf (tTest (tOp rIsNQ (tVar 3) (tC .non))) (tC .non) (tCall (spRow ro) [] E0 (tCons (tVar 0) (tCons (tVar 3) tNil)))))),
    (pss_cons (ps_set (i := 3) sc_rest_row.nd rfl (by first | exact Or.inl rfl | exact Or.inr rfl) (pe_cal C_down_stair hr (by first | decide | omega) (by rfl) pass0 (pa_cons (pv 0) (pa_cons (pe_cal C_less hr (by first | decide | omega) (by rfl) pass0 (pa_cons (pe_cal C_stair_from hr (by first | decide | omega) (by rfl) pass0 (pa_cons (pv 0) (pa_cons (pv 1) pa_nil))) (pa_cons (pe_cal C_stair_from hr (by first | decide | omega) (by rfl) pass0 (pa_cons (pv 0) (pa_cons (pv 2) pa_nil))) pa_nil))) pa_nil))))
  (pss_one (ps_ret (pe_ifExp (pt_cmpR op_isNQ (pv 3) pe_non (nomark _)) pe_non (pe_cal C_row_from hr (by first | decide | omega) (by rfl) pass0 (pa_cons (pv 0) (pa_cons (pv 3) pa_nil))))))), ?_⟩
  refine ⟨_, rfl, _, rfl, _, rfl, _, _, us, a, rfl, hu, ha, la, hU, fun v1 H1 e1 a1 => ?_⟩
  refine ⟨_, rfl, _, rfl, _, _, us, b, rfl, hu.mono e1, hb.mono e1, lb, hU, fun v2 H2 e2 a2 => ?_⟩
  refine ⟨_, _, _, _, rfl, a1.mono e2, a2, by omega, by omega, fun v3 H3 e3 a3 => ?_⟩
  have e13 := e1.trans (e2.trans e3)
  refine ⟨_, _, us, _, rfl, hu.mono e13, a3, l3, hU, fun v4 H4 e4 a4 => ?_⟩
  refine ⟨_, rfl, rfl, _, rfl, ?_⟩
  have k : Ret H Q (dO (rest us a b)) := k
  unfold downs at a4
  unfold rest at k
  cases hn : isN (sub (st us a) (st us b)) with
  | true =>
    rw [hn] at a4 k
    cases a4
    rw [decide_eq_true rfl]
    exact iteT (k.go (e13.trans e4) .non)
  | false =>
    rw [hn] at a4 k
    have a4' : At H4 v4 (dR (dn us (sub (st us a) (st us b)))) := a4
    obtain ⟨p4, rfl, h4⟩ := a4'.of_row
    rw [decide_eq_false (by intro z; cases z)]
    refine iteF ⟨_, rfl, _, rfl, _, _, us, _, rfl, hu.mono (e13.trans e4), a4', by rw [dn_len]; exact l3, hU, fun v5 H5 e5 a5 => k.go ((e13.trans e4).trans e5) a5⟩
end
end K26
set_option Elab.async false
set_option linter.all false
set_option maxRecDepth 100000
set_option maxHeartbeats 4000000
namespace K26
open PySem PySem.Spec PyProof.Rows L2 RZ RT
/-! ## the package's exceptions -/
/-- what the top says of YardError -/
structure Yd (K : PySem.W.Frag) (mg : Str → Option Value) (C : Addr) : Prop where
  gC : mg "YardError" = some (.ref C)
  gA : PySem.W.specialIn K (.ref C) "__getattribute__" = some (some (.builtin "type.__getattribute__"))
  tC : PySem.W.typeIn K (.ref C) = some (.type "type")
  rC : PySem.W.readsIn K C (.type "type") = true
  fC : PySem.W.findCls K (.ref C) (.type "type") "__init__" = some (.val (.builtin "ValueError.__init__"))
section
variable {X : Cx} {e : Expr} {es : List Expr} {ta : TA} {p1 p2 pos : Pos} {CY : Addr}
/-- YardError.__init__(self, ..) -/
theorem pe_yinit {pl : Sem Bool} (Y : Yd X.K X.mg CY) (hg : Gl X "YardError") (ha : PA X (e :: es) ta)
    (hc : eval (.Call (.Attribute (.Name "YardError" p1) "__init__" p2) (e :: es) [] pos) X.env = (do
      let ov ← eval (.Name "YardError" p1) X.env
      standAt p2.atName
      let (f, first) ← holding [ov] (getMethod ov "__init__" pl)
      callWith pos f first (backTo pos (starEach (e :: es) X.env)) (backToKw pos (keywordEach [] X.env))) := by rfl)
    (he : starEach (e :: es) X.env = (false, eval e X.env) :: starEach es X.env := by rfl) (hpl : (backTo pos (starEach es X.env)).any (·.1) = false := by rfl) :
    PE X (.Call (.Attribute (.Name "YardError" p1) "__init__" p2) (e :: es) [] pos) (tVeI X.K ta) := by
  refine ⟨fun pins s σ H Q I h => ?_⟩
  refine PySem.W.methodCall_KW (ld_glob I hg Y.gC ?_ (by decide)) hc
  obtain ⟨m, fr⟩ := I.fr
  refine PySem.W.method_of_cls fr I.ok.mod.kin Y.gA (PySem.W.cls_val fr I.ok.mod.kin Y.tC Y.rC Y.fC (by decide +kernel) ?_)
  show wpAny _ _ (callWith pos (Value.builtin "ValueError.__init__") [] (backTo pos (starEach (e :: es) X.env)) []) _ _ _
  refine PyProof.Rows.callWith_method1 (thn (ha.run pos pins _ σ H _ (I.tok _) h) fun us s1 ⟨vs, H1, I1, r1, a, C, ws, ev, hl, T, ea, q⟩ => ?_) he hpl
  subst ev
  cases r1 with
  | @cons _ u0 _ ur ra rw' =>
    obtain rfl : u0 = Value.ref a := ra
    have hlen : ur.length ≤ sizeLine := by
      rw [← Paired.length rw', sizeLine_eq]
      omega
    exact oinit_ok T I1 ea hlen fun s' J => ⟨.non, H1, J, rfl, q⟩
end
/-- the __init__ of a class of the text -/
abbrev FnI (K : PySem.W.Frag) (q : Str) (st : Stmt) (f : Addr) (fd : FuncData) : Prop := FunD K "__init__" q (defArgs st) (defBody st) (defScope st) [] [] f fd
/-- what __init__ makes of a fresh exception of the class at C: its field f -/
def spInit (C : Addr) (g : Str) : Sp := fun vs H Q _ => ∃ (a : Addr) (y : V), vs = [.ref a, y] ∧ H a = some (exo a C none) ∧ ∀ dx, H dx = none → dx ≠ a → Q .non (upd (upd H dx (exd dx [(g, y)])) a (exo a C (some dx)))
/-- .. of a class without a field -/
def spInit0 (C : Addr) : Sp := fun vs H Q _ => ∃ a : Addr, vs = [.ref a] ∧ H a = some (exo a C none) ∧ Q .non H
/-- a class of the package with a field g, its __init__ -/
structure Xc (P : Program) (w : World) (K : PySem.W.Frag) (mg : Str → Option Value) (base : Heap) (x : Str) (C : Addr) (g : Str) : Prop where
  oex : OexC K C
  gC : mg x = some (.ref C)
  ini : ∃ fI fd, PySem.W.findIn K (.ref C) "__init__" = some (some (.ref fI)) ∧ PySem.W.typeIn K (.ref fI) = some (.type "function") ∧ FnOk P w K mg base CX0 1 fI fd ["self", g] (spInit C g) ∧ Binds K fd ["self", g] []
structure Xc0 (P : Program) (w : World) (K : PySem.W.Frag) (mg : Str → Option Value) (base : Heap) (x : Str) (C : Addr) : Prop where
  oex : OexC K C
  gC : mg x = some (.ref C)
  ini : ∃ fI fd, PySem.W.findIn K (.ref C) "__init__" = some (some (.ref fI)) ∧ PySem.W.typeIn K (.ref fI) = some (.type "function") ∧ FnOk P w K mg base CX0 1 fI fd ["self"] (spInit0 C) ∧ Binds K fd ["self"] []
section
variable {X : Cx} {pins : List (Addr × Obj)} {σ : L2.St} {Q : XK} {e : Expr} {es : List Expr} {ta : TA} {p pos pos2 : Pos} {x : Str} {C : Addr} {j : Nat} {W : WX} {g : Str}
theorem _root_.L2.PA.weak {X : Cx} {es : List Expr} {ta : TA} (ha : PA X es ta) : PA X es (fun σ H R => ∃ R0, ta σ H R0 ∧ ∀ vs H1, R0 vs H1 → R vs H1) :=
  ⟨fun pos pins s σ H R I ⟨R0, h, k⟩ => thn (ha.run pos pins s σ H R0 I h) fun us s1 ⟨vs, H1, I1, r1, q⟩ => ⟨vs, H1, I1, r1, k _ _ q⟩⟩
/-- raise C(e): the exception's dict is new -/
def tRs (C : Addr) (g : Str) (W : WX) (ta : TA) : TS := fun _ σ H => ta σ H fun vs H1 => ∃ y, vs = [y] ∧ ∀ d, H1 d = none → W (.ref C) (some d) σ (upd H1 d (.xd [(g, y)]))
theorem ps_rs (hc : X.calm = true) (tk : Takes X W) (T : Xc X.prog X.w X.K X.mg X.base x C g) (hr : Room j X.A) (hj : 2 ≤ j) (hg : Gl X x) (ha : PA X [e] ta)
    (hdb : (x == ("__debug__" : Str)) = false := by decide) (he : starEach [e] X.env = (false, eval e X.env) :: starEach [] X.env := by rfl) (hpl : (backTo pos (starEach [] X.env)).any (·.1) = false := by rfl) :
    PS X (.Raise (some (.Call (.Name x p) [e] [] pos)) none pos2) (tRs C g W ta) := by
  obtain ⟨fI, fd, iC, tI, F1, hb⟩ := T.ini
  refine ⟨fun pins s σ H D I h => (ps_raise (pos := pos2) hc tk (pmk_oex T.oex iC tI F1 (hr.mono hj) hb .nil (fun _ _ _ _ _ _ _ c => c.elim) hg T.gC ha.weak hdb he hpl)).run pins s σ H D I ⟨_, h, fun vs H1 hv => ?_⟩⟩
  obtain ⟨y, rfl, hq⟩ := hv
  refine ⟨by simp, fun a han => ?_⟩
  refine ⟨a, y, rfl, upd_same, fun dx hdx hda => ⟨rfl, dx, [(g, y)], upd_same, ?_, ?_, ?_⟩⟩
  · rw [upd_ne hda, upd_same]
  · rwa [upd_ne hda] at hdx
  · have hdx' : H1 dx = none := by rwa [upd_ne hda] at hdx
    have k := hq dx hdx'
    have e : upd (del (upd (upd (upd H1 a (exo a C none)) dx (exd dx [(g, y)])) a (exo a C (some dx))) a) dx (.xd [(g, y)]) = upd H1 dx (.xd [(g, y)]) := by
      funext b
      by_cases h1 : b = dx
      · rw [h1, upd_same, upd_same]
      · rw [upd_ne h1, upd_ne h1]
        by_cases h2 : b = a
        · rw [h2, del_same, han]
        · rw [del_ne h2, upd_ne h2, upd_ne h1, upd_ne h2]
    rw [e]
    exact k
end
section
variable {X : Cx} {pins : List (Addr × Obj)} {σ : L2.St} {p pos pos2 : Pos} {x : Str} {C : Addr} {j : Nat} {W : WX}
/-- an exception without a dict is let go -/
theorem fly0 {H1 H2 : Hp} {hp hp2 h2 : Heap} {g1 g2 : Array GenState} {d1 d2 : Drawn} {t1 t2 : Nat} {os1 os2 : OsState} {a : Addr} (I1 : Inv X pins σ H1 ⟨hp, g1, d1, t1, os1⟩) (ha : hp.objs.size ≤ a) (k : ∀ b o, hp.get? b = some o → hp2.get? b = some o)
    (un : Un (frs X.stack) [] (upd H1 a (exo a C none)) H2 hp2 h2) (hok : HOk X.prog X.w H2 h2) (ho : os2 = os1) (hb : AllBare g2) (ea : H2 a = some (exo a C none)) :
    ∃ (t0 : Addr) (G : Heap), Inv X pins σ (del H2 a) ⟨G, g2, d2, t2, os2⟩ ∧ (∀ b o, G.get? b = some o → h2.get? b = some o) ∧ G.get? a = none ∧
      h2.get? a = some ({ cls := .ref C, dict := none, data := .fields #[.ref t0, .none, .none, .none, .bool false, .none] } : Obj) := by
  obtain ⟨t0, hoe⟩ := exo_at hok ea
  have hn : H1 a = none := I1.hok.fresh ha
  obtain ⟨G, q1, q2⟩ := restrict h2 fun b => decide (b ≠ a)
  have gk : ∀ b, b ≠ a → G.get? b = h2.get? b := fun b z => q1 b (decide_eq_true z)
  have ge : G.get? a = none := q2 a (by simp)
  have nha : ∀ {b : Addr} {o : Obj}, hp.get? b = some o → b ≠ a := fun {b o} z => Nat.ne_of_lt (Nat.lt_of_lt_of_le (Heap.lt_size z) ha)
  have on : ∀ {b : Addr}, b ≠ a → H1 b = none → upd H1 a (exo a C none) b = none := fun {b} z n => by rw [upd_ne z, n]
  have nt : ∀ {b : Addr} {u : HO}, H1 b = some u → b ≠ a := fun {b u} z => ne_of_none z hn
  refine ⟨t0, G, I1.call' (ch := []) ho ?_ ?_ hb (fun b z => absurd z (by simp)), fun b o z => ?_, ge, hoe⟩
  · constructor
    · intro b o z n hf hx
      rw [gk b (nha z)]; exact un.keep b o (k b o z) (on (nha z) n) hf hx
    · intro b o z n hf hx
      rw [gk b (nha z)]; exact un.slot b o (k b o z) (on (nha z) n) hf hx
    · intro b o z n hx
      rw [del_ne (nha z)]; exact un.free b o (k b o z) (on (nha z) n) hx
    · intro b o z hx
      rw [gk b (nha z)]; exact un.there b o (k b o z) hx
    · intro b xs z
      rw [del_ne (nt z)]; exact un.tups b xs (by rw [upd_ne (nt z), z])
    · intro b o v z
      rw [del_ne (nt z)]; exact un.frzs b o v (by rw [upd_ne (nt z), z])
    · intro b ps z
      rw [del_ne (nt z)]; exact un.tbls b ps (by rw [upd_ne (nt z), z])
  · intro b o z
    by_cases hba : b = a
    · subst hba; rw [del_same] at z; cases z
    · rw [del_ne hba] at z
      have noa : ∀ {c : Addr}, H2 c = some (.own b) → c ≠ a := fun {c} hc => at_ne ea hc exo_own
      refine (hok b o z).stay (fun c v hc y => ?_) (fun c hc => by rw [del_ne (noa hc), hc]) (fun c xs hc => by rw [del_ne (at_ne ea hc exo_tup), hc])
      have hca : c ≠ a := by
        rcases hc with hc | hc
        · rwa [hc]
        · exact noa hc
      rwa [gk c hca]
  · by_cases hba : b = a
    · rw [hba, ge] at z; cases z
    · rwa [gk b hba] at z
/-- raise C() -/
def tRs0 (C : Addr) (W : WX) : TS := fun _ σ H => W (.ref C) none σ H
theorem ps_rs0 (hc : X.calm = true) (tk : Takes X W) (T : Xc0 X.prog X.w X.K X.mg X.base x C) (hr : Room j X.A) (hj : 2 ≤ j) (hg : Gl X x) (hdb : (x == ("__debug__" : Str)) = false := by decide) :
    PS X (.Raise (some (.Call (.Name x p) [] [] pos)) none pos2) (tRs0 C W) := by
  obtain ⟨fI, fd, iC, tI, F1, hb⟩ := T.ini
  have mk : PMk X (.Call (.Name x p) [] [] pos) (fun _ H Q => Q (.ref C) none H) := by
    intro pins s σ H Q I h
    obtain ⟨nm, q, N, bs, bm, sn, sub, ab, col, dd, k0, k1, k2, k3, k5, hC, hbm⟩ := T.oex.cls
    refine wpAny_Call_Name_kw (ld_glob I hg T.gC ?_ hdb)
    refine PySem.W.callWith_K0 I.kIn T.oex.kC ?_
    show wpAny _ _ (call (.ref C) []) _ _ _
    obtain ⟨hp, g, dr, tk, os⟩ := s
    have hsz : hp.objs.size ≤ hp.objs.size + 1 := Nat.le_succ _
    have hn : H (hp.objs.size + 1) = none := I.hok.fresh hsz
    have kk : ∀ b o, hp.get? b = some o → ((hp.push (PySem.W.kdv_tup [])).push (PySem.HandSPX.excO C hp.objs.size)).get? b = some o := fun b o e => Heap.get?_push_of_some _ (Heap.get?_push_of_some _ e)
    have I2 : Inv X pins σ (upd H (hp.objs.size + 1) (exo (hp.objs.size + 1) C none)) ⟨(hp.push (PySem.W.kdv_tup [])).push (PySem.HandSPX.excO C hp.objs.size), g, dr, tk, os⟩ :=
      I.laid (t' := tk) (a := hp.objs.size + 1) (o := exo (hp.objs.size + 1) C none) (h' := (hp.push (PySem.W.kdv_tup [])).push (PySem.HandSPX.excO C hp.objs.size)) kk hsz (exo_ok (by heap_get))
    have r2 : Vals [V.ref (hp.objs.size + 1)] [Value.ref (hp.objs.size + 1)] := .cons rfl .nil
    refine wpAny_call (PySem.HandSPX.call_own F.excBase_ValueError (fun Y => PySem.HandSPX.refsVE_contains Y bm hbm) (I.kIn _ _ hC) (PySem.W.looks_findIn I.kIn iC) (fun self => PySem.W.bind_fn I.kIn self tI) (by simp)
      (codeAny_mono (F1.run _ X.stack _ _ ⟨[Value.ref (hp.objs.size + 1)], []⟩ [Value.ref (hp.objs.size + 1)] _ (fun v H2 => v = .non ∧ H2 = upd H (hp.objs.size + 1) (exo (hp.objs.size + 1) C none)) (fun _ _ _ => False)
        ((hr.mono hj).make C [] []) (I2.env0.make C [] []) (hb _ [Value.ref (hp.objs.size + 1)] I2.kIn rfl) r2 ⟨_, rfl, upd_same, rfl, rfl⟩) fun r s' hq' => ?_))
    cases r with
    | error er => exact (hq' : False).elim
    | ok fl =>
      cases fl with
      | ret u =>
        obtain ⟨v, H2, os2, bare2, un2, hok2, rv, ev, e2⟩ := hq'
        subst ev e2
        obtain ⟨h2, g2, d2, t2, os'⟩ := s'
        obtain ⟨t0, G, J, kG, ge, hoe⟩ := fly0 (C := C) (d2 := d2) (t2 := t2) I hsz kk un2 hok2 os2 bare2 upd_same
        have eH : del (upd H (hp.objs.size + 1) (exo (hp.objs.size + 1) C none)) (hp.objs.size + 1) = H := by
          funext b
          by_cases z : b = hp.objs.size + 1
          · rw [z, del_same, hn]
          · rw [del_ne z, upd_ne z]
        rw [eH] at J
        exact ⟨rv, _, _, _, ⟨G, g2, d2, t2, os'⟩, _, .ref C, none, rfl, J, kG, ge, hoe, ⟨rfl, rfl⟩, rfl, rfl, hn, rfl, bare2, raises_own T.oex.exC T.oex.tyC, h⟩
      | next => exact False.elim hq'
      | brk => exact False.elim hq'
      | cont => exact False.elim hq'
  exact ⟨fun pins s σ H D I h => (ps_raise (pos := pos2) hc tk mk).run pins s σ H D I h⟩
end
section
variable {P : Program} {w : World} {K : PySem.W.Frag} {mg : Str → Option Value} {base : Heap} {f C CY : Addr} {fd : FuncData}
theorem scI_BadUnits : FnScope ["self", "value"] ["self", "value"] (defScope (inClass (top 2) 0)) := ⟨rfl, rfl, rfl, by decide +kernel, rfl, by decide +kernel, by decide +kernel⟩
theorem ok_init_BadUnits (Y : Yd K mg CY) (T : OexC K C) (hno : PySem.W.findIn K (.ref C) "value" = some none) (F : FnI K "BadUnits.__init__" (inClass (top 2) 0) f fd) : FnOk P w K mg base CX0 1 f fd ["self", "value"] (spInit C "value") := by
  refine F.ok scI_BadUnits (fun vs H Q E h => by obtain ⟨_, _, rfl, _⟩ := h; rfl) (fun cdv A outer s H vs Q E hr h => ?_)
  obtain ⟨a, y, rfl, ha, k⟩ := h
  refine ⟨(tSeq (tDrop (tVeI K (tCons (tVar 0) (tCons (tC (.str "not units that divide one another")) tNil)))) (tOst K "value" (tVar 0) (tVar 1))),
    pss_cons (ps_expr (pe_yinit Y rfl (pa_cons (pv 0) (pa_cons pe_str pa_nil)))) (pss_one (ps_ost (pv 0) (pv 1))), ?_⟩
  exact ⟨_, rfl, a, C, _, rfl, by simp, T, ha, _, rfl, _, rfl, a, C, rfl, T, hno, .inl ⟨ha, k⟩⟩
theorem scI_BadRow : FnScope ["self", "value"] ["self", "value"] (defScope (inClass (top 3) 0)) := ⟨rfl, rfl, rfl, by decide +kernel, rfl, by decide +kernel, by decide +kernel⟩
theorem ok_init_BadRow (Y : Yd K mg CY) (T : OexC K C) (hno : PySem.W.findIn K (.ref C) "value" = some none) (F : FnI K "BadRow.__init__" (inClass (top 3) 0) f fd) : FnOk P w K mg base CX0 1 f fd ["self", "value"] (spInit C "value") := by
  refine F.ok scI_BadRow (fun vs H Q E h => by obtain ⟨_, _, rfl, _⟩ := h; rfl) (fun cdv A outer s H vs Q E hr h => ?_)
  obtain ⟨a, y, rfl, ha, k⟩ := h
  refine ⟨(tSeq (tDrop (tVeI K (tCons (tVar 0) (tCons (tC (.str "not a row of these units")) tNil)))) (tOst K "value" (tVar 0) (tVar 1))),
    pss_cons (ps_expr (pe_yinit Y rfl (pa_cons (pv 0) (pa_cons pe_str pa_nil)))) (pss_one (ps_ost (pv 0) (pv 1))), ?_⟩
  exact ⟨_, rfl, a, C, _, rfl, by simp, T, ha, _, rfl, _, rfl, a, C, rfl, T, hno, .inl ⟨ha, k⟩⟩
theorem scI_BadTree : FnScope ["self", "path"] ["self", "path"] (defScope (inClass (top 4) 0)) := ⟨rfl, rfl, rfl, by decide +kernel, rfl, by decide +kernel, by decide +kernel⟩
theorem ok_init_BadTree (Y : Yd K mg CY) (T : OexC K C) (hno : PySem.W.findIn K (.ref C) "path" = some none) (F : FnI K "BadTree.__init__" (inClass (top 4) 0) f fd) : FnOk P w K mg base CX0 1 f fd ["self", "path"] (spInit C "path") := by
  refine F.ok scI_BadTree (fun vs H Q E h => by obtain ⟨_, _, rfl, _⟩ := h; rfl) (fun cdv A outer s H vs Q E hr h => ?_)
  obtain ⟨a, y, rfl, ha, k⟩ := h
  refine ⟨(tSeq (tDrop (tVeI K (tCons (tVar 0) (tCons (tC (.str "not a tree of yards")) tNil)))) (tOst K "path" (tVar 0) (tVar 1))),
    pss_cons (ps_expr (pe_yinit Y rfl (pa_cons (pv 0) (pa_cons pe_str pa_nil)))) (pss_one (ps_ost (pv 0) (pv 1))), ?_⟩
  exact ⟨_, rfl, a, C, _, rfl, by simp, T, ha, _, rfl, _, rfl, a, C, rfl, T, hno, .inl ⟨ha, k⟩⟩
theorem scI_BadIndex : FnScope ["self", "value"] ["self", "value"] (defScope (inClass (top 5) 0)) := ⟨rfl, rfl, rfl, by decide +kernel, rfl, by decide +kernel, by decide +kernel⟩
theorem ok_init_BadIndex (Y : Yd K mg CY) (T : OexC K C) (hno : PySem.W.findIn K (.ref C) "value" = some none) (F : FnI K "BadIndex.__init__" (inClass (top 5) 0) f fd) : FnOk P w K mg base CX0 1 f fd ["self", "value"] (spInit C "value") := by
  refine F.ok scI_BadIndex (fun vs H Q E h => by obtain ⟨_, _, rfl, _⟩ := h; rfl) (fun cdv A outer s H vs Q E hr h => ?_)
  obtain ⟨a, y, rfl, ha, k⟩ := h
  refine ⟨(tSeq (tDrop (tVeI K (tCons (tVar 0) (tCons (tC (.str "there is nothing at this place")) tNil)))) (tOst K "value" (tVar 0) (tVar 1))),
    pss_cons (ps_expr (pe_yinit Y rfl (pa_cons (pv 0) (pa_cons pe_str pa_nil)))) (pss_one (ps_ost (pv 0) (pv 1))), ?_⟩
  exact ⟨_, rfl, a, C, _, rfl, by simp, T, ha, _, rfl, _, rfl, a, C, rfl, T, hno, .inl ⟨ha, k⟩⟩
theorem scI_TooGreat : FnScope ["self", "most"] ["self", "most"] (defScope (inClass (top 7) 0)) := ⟨rfl, rfl, rfl, by decide +kernel, rfl, by decide +kernel, by decide +kernel⟩
theorem ok_init_TooGreat (Y : Yd K mg CY) (T : OexC K C) (hno : PySem.W.findIn K (.ref C) "most" = some none) (F : FnI K "TooGreat.__init__" (inClass (top 7) 0) f fd) : FnOk P w K mg base CX0 1 f fd ["self", "most"] (spInit C "most") := by
  refine F.ok scI_TooGreat (fun vs H Q E h => by obtain ⟨_, _, rfl, _⟩ := h; rfl) (fun cdv A outer s H vs Q E hr h => ?_)
  obtain ⟨a, y, rfl, ha, k⟩ := h
  refine ⟨(tSeq (tDrop (tVeI K (tCons (tVar 0) (tCons (tC (.str "more than may be")) tNil)))) (tOst K "most" (tVar 0) (tVar 1))),
    pss_cons (ps_expr (pe_yinit Y rfl (pa_cons (pv 0) (pa_cons pe_str pa_nil)))) (pss_one (ps_ost (pv 0) (pv 1))), ?_⟩
  exact ⟨_, rfl, a, C, _, rfl, by simp, T, ha, _, rfl, _, rfl, a, C, rfl, T, hno, .inl ⟨ha, k⟩⟩
theorem scI_NoRow : FnScope ["self"] ["self"] (defScope (inClass (top 6) 0)) := ⟨rfl, rfl, rfl, by decide +kernel, rfl, by decide +kernel, by decide +kernel⟩
theorem ok_init_NoRow (Y : Yd K mg CY) (T : OexC K C) (F : FnI K "NoRow.__init__" (inClass (top 6) 0) f fd) : FnOk P w K mg base CX0 1 f fd ["self"] (spInit0 C) := by
  refine F.ok scI_NoRow (fun vs H Q E h => by obtain ⟨_, rfl, _⟩ := h; rfl) (fun cdv A outer s H vs Q E hr h => ?_)
  obtain ⟨a, rfl, ha, k⟩ := h
  refine ⟨(tDrop (tVeI K (tCons (tVar 0) (tCons (tC (.str "there is no such row")) tNil)))),
    pss_one (ps_expr (pe_yinit Y rfl (pa_cons (pv 0) (pa_cons pe_str pa_nil)))), ?_⟩
  exact ⟨_, rfl, a, C, _, rfl, by simp, T, ha, k⟩
end
end K26
set_option Elab.async false
set_option linter.all false
set_option maxRecDepth 100000
set_option maxHeartbeats 4000000
namespace K26
open PySem PySem.Spec PyProof.Rows L2 RZ RT
/-! ## what is heard of a call -/
structure XA where
  bu : Addr
  br : Addr
  bt : Addr
  bi : Addr
  nr : Addr
  tg : Addr
inductive Out where
  | ok (d : PyData)
  | units (d : PyData)
  | row (d : PyData)
  | tree (d : PyData)
  | index (d : PyData)
  | great
  | lack
def Rs (H : Hp) (E : XK) (C : Addr) (g : Str) (d : PyData) : Prop := ∀ dx v H', Same H H' → H' dx = some (.xd [(g, v)]) → At H' v d → E (.ref C) (some dx) H'
def Go (A : XA) (H : Hp) (Q : VK) (E : XK) : Out → Prop
  | .ok d => Ret H Q d
  | .units d => Rs H E A.bu "value" d
  | .row d => Rs H E A.br "value" d
  | .tree d => Rs H E A.bt "path" d
  | .index d => Rs H E A.bi "value" d
  | .great => Rs H E A.tg "most" (.int 8)
  | .lack => ∀ H', Same H H' → E (.ref A.nr) none H'
theorem Rs.go {H H1 : Hp} {E : XK} {C : Addr} {g : Str} {d : PyData} {v : V} (k : Rs H E C g d) (e : Same H H1) (h : At H1 v d) : ∀ dx, H1 dx = none → E (.ref C) (some dx) (upd H1 dx (.xd [(g, v)])) :=
  fun dx hd => k dx v _ (e.trans (same_new hd)) upd_same (h.mono (same_new hd))
theorem Ret.mono {H H1 : Hp} {Q : VK} {d : PyData} (k : Ret H Q d) (e : Same H H1) : Ret H1 Q d := fun v H' e' h => k v H' (e.trans e') h
theorem Go.mono {A : XA} {H H1 : Hp} {Q : VK} {E : XK} {o : Out} (k : Go A H Q E o) (e : Same H H1) : Go A H1 Q E o := by
  cases o with
  | ok d => exact Ret.mono k e
  | units d => exact fun dx v H' e' => k dx v H' (e.trans e')
  | row d => exact fun dx v H' e' => k dx v H' (e.trans e')
  | tree d => exact fun dx v H' e' => k dx v H' (e.trans e')
  | index d => exact fun dx v H' e' => k dx v H' (e.trans e')
  | great => exact fun dx v H' e' => k dx v H' (e.trans e')
  | lack => exact fun H' e' => k H' (e.trans e')
/-! ## tests of data -/
def intP : PyData → Bool
  | .int _ => true
  | .bool _ => true
  | _ => false
def boolP : PyData → Bool
  | .bool _ => true
  | _ => false
def tupP : PyData → Bool
  | .tuple _ => true
  | _ => false
def fromP (lo hi : Int) : PyData → Bool
  | .int i => decide (lo ≤ i) && decide (i ≤ hi)
  | _ => false
def natP : PyData → Bool
  | .int i => decide (0 ≤ i)
  | _ => false
def unitsP : PyData → Bool
  | .tuple ds => decide (ds.length ≤ 3) && ds.all (fromP 2 10)
  | _ => false
def rowP (n : Nat) : PyData → Bool
  | .tuple ds => decide (ds.length = n + 1) && ds.all (fromP 0 (10 ^ 60))
  | _ => false
def yardP (n : Nat) : PyData → Bool
  | .tuple [s, a, .tuple _] => rowP n s && rowP n a
  | _ => false
section
variable {K : PySem.W.Frag} {H : Hp} {v : V} {d : PyData}
theorem isi_int (h : At H v d) : ∃ t, TyX K H v t ∧ PySem.W.kitOne K t (.type "int") = some (intP d) := by
  cases h with
  | non  => exact ⟨_, .base .non, kit_ty (r := false) (by decide +kernel)⟩
  | bl b => exact ⟨_, .base (.bl b), kit_ty (r := true) (by decide +kernel)⟩
  | int i => exact ⟨_, .base (.int i), kit_ty (r := true) (by decide +kernel)⟩
  | str x => exact ⟨_, .base (.str x), kit_ty (r := false) (by decide +kernel)⟩
  | lst e k => exact ⟨_, .base (.lst e), kit_ty (r := false) (by decide +kernel)⟩
  | tup e k => exact ⟨_, .base (.tup e), kit_ty (r := false) (by decide +kernel)⟩
theorem isi_bool (h : At H v d) : ∃ t, TyX K H v t ∧ PySem.W.kitOne K t (.type "bool") = some (boolP d) := by
  cases h with
  | non  => exact ⟨_, .base .non, kit_ty (r := false) (by decide +kernel)⟩
  | bl b => exact ⟨_, .base (.bl b), kit_ty (r := true) (by decide +kernel)⟩
  | int i => exact ⟨_, .base (.int i), kit_ty (r := false) (by decide +kernel)⟩
  | str x => exact ⟨_, .base (.str x), kit_ty (r := false) (by decide +kernel)⟩
  | lst e k => exact ⟨_, .base (.lst e), kit_ty (r := false) (by decide +kernel)⟩
  | tup e k => exact ⟨_, .base (.tup e), kit_ty (r := false) (by decide +kernel)⟩
theorem isi_tup (h : At H v d) : ∃ t, TyX K H v t ∧ PySem.W.kitOne K t (.type "tuple") = some (tupP d) := by
  cases h with
  | non  => exact ⟨_, .base .non, kit_ty (r := false) (by decide +kernel)⟩
  | bl b => exact ⟨_, .base (.bl b), kit_ty (r := false) (by decide +kernel)⟩
  | int i => exact ⟨_, .base (.int i), kit_ty (r := false) (by decide +kernel)⟩
  | str x => exact ⟨_, .base (.str x), kit_ty (r := false) (by decide +kernel)⟩
  | lst e k => exact ⟨_, .base (.lst e), kit_ty (r := false) (by decide +kernel)⟩
  | tup e k => exact ⟨_, .base (.tup e), kit_ty (r := true) (by decide +kernel)⟩
end
/-- the module's numbers -/
structure Mo (mg : Str → Option Value) : Prop where
  MOST_UNITS : ∃ t, mg "MOST_UNITS" = some (.int 3 t)
  MOST_RATIO : ∃ t, mg "MOST_RATIO" = some (.int 10 t)
  MOST_PIECES : ∃ t, mg "MOST_PIECES" = some (.int (10 ^ 60) t)
  MOST_YARDS : ∃ t, mg "MOST_YARDS" = some (.int 8 t)
def spFrom : Sp := fun vs H Q _ => ∃ (v : V) (d : PyData) (lo hi : Int), vs = [v, .int lo, .int hi] ∧ At H v d ∧ Q (.bl (fromP lo hi d)) H
def spNat : Sp := fun vs H Q _ => ∃ (v : V) (d : PyData), vs = [v] ∧ At H v d ∧ Q (.bl (natP d)) H
def spUnits (A : XA) : Sp := fun vs H Q E => ∃ (v : V) (d : PyData), vs = [v] ∧ At H v d ∧ Go A H Q E (if unitsP d then .ok d else .units d)
def spIsRow : Sp := fun vs H Q _ => ∃ (u v : V) (us : List Int) (d : PyData), vs = [u, v] ∧ At H u (dR us) ∧ At H v d ∧ Q (.bl (rowP us.length d)) H
def spNeedRow (A : XA) : Sp := fun vs H Q E => ∃ (u v : V) (us : List Int) (d : PyData), vs = [u, v] ∧ At H u (dR us) ∧ Us us ∧ At H v d ∧ Go A H Q E (if rowP us.length d then .ok d else .row d)
def spIsYard : Sp := fun vs H Q _ => ∃ (u v : V) (us : List Int) (d : PyData), vs = [u, v] ∧ At H u (dR us) ∧ At H v d ∧ Q (.bl (yardP us.length d)) H
section
variable {P : Program} {w : World} {K : PySem.W.Frag} {mg : Str → Option Value} {base : Heap} {f : Addr} {fd : FuncData} {A : XA}
theorem sc_is_from : FnScope ["value", "low", "high"] ["value", "low", "high"] (defScope (top 11)) := ⟨rfl, rfl, rfl, by decide +kernel, rfl, by decide +kernel, by decide +kernel⟩
theorem ok_is_from (B : Bi mg) (F : FnP K "is_from" (top 11) f fd) : FnOk P w K mg base CX0 1 f fd ["value", "low", "high"] spFrom := by
  refine ok0 F sc_is_from (fun vs H Q E h => by obtain ⟨_, _, _, _, rfl, _⟩ := h; rfl) (fun cdv A outer s H vs Q E hr h => ?_)
  obtain ⟨v, d, lo, hi, rfl, ha, k⟩ := h
  refine ⟨(tRet (tAndV (tCB (rIsi K) (tCons (tVar 0) (tCons (tC (.ty "int")) tNil))) (tAndV (tNotV (tCB (rIsi K) (tCons (tVar 0) (tCons (tC (.ty "bool")) tNil)))) (tChain (rI0 fun i j => .bl (decide (i ≤ j))) (rI0 fun i j => .bl (decide (i ≤ j))) (tVar 1) (tVar 0) (tVar 2))))),
    (pss_one (ps_ret (pe_and (pe_callB call_isi (by rfl) B.isinstance (by decide +kernel) (pa_cons (pv 0) (pa_cons (pe_bty B.int rfl (by decide +kernel)) pa_nil))) (pe_and (pe_not (pe_callB call_isi (by rfl) B.isinstance (by decide +kernel) (pa_cons (pv 0) (pa_cons (pe_bty B.bool rfl (by decide +kernel)) pa_nil)))) (pe_one (pe_chain op_le op_le (pv 1) (pv 0) (pv 2))))))), ?_⟩
  obtain ⟨t1, g1, g2⟩ := isi_int (K := K) ha
  obtain ⟨t2, g3, g4⟩ := isi_bool (K := K) ha
  refine ⟨_, rfl, _, _, t1, _, _, rfl, .ty _, g1, g2, _, rfl, ?_⟩
  cases ha with
  | non => exact iteF k
  | str => exact iteF k
  | lst => exact iteF k
  | tup => exact iteF k
  | bl b => exact iteT ⟨_, rfl, _, _, t2, _, _, rfl, .ty _, g3, g4, _, rfl, _, rfl, iteF k⟩
  | int i =>
    refine iteT ⟨_, rfl, _, _, t2, _, _, rfl, .ty _, g3, g4, _, rfl, _, rfl, iteT ?_⟩
    refine ⟨_, rfl, _, rfl, lo, i, rfl, rfl, _, rfl, ?_⟩
    have k : Q (.bl (decide (lo ≤ i) && decide (i ≤ hi))) H := k
    cases h : decide (lo ≤ i) with
    | false => rw [h] at k; exact iteF k
    | true => rw [h] at k; exact iteT ⟨_, rfl, i, hi, rfl, rfl, k⟩
theorem sc_is_natural : FnScope ["value"] ["value"] (defScope (top 12)) := ⟨rfl, rfl, rfl, by decide +kernel, rfl, by decide +kernel, by decide +kernel⟩
theorem ok_is_natural (B : Bi mg) (F : FnP K "is_natural" (top 12) f fd) : FnOk P w K mg base CX0 1 f fd ["value"] spNat := by
  refine ok0 F sc_is_natural (fun vs H Q E h => by obtain ⟨_, _, rfl, _⟩ := h; rfl) (fun cdv A outer s H vs Q E hr h => ?_)
  obtain ⟨v, d, rfl, ha, k⟩ := h
  refine ⟨(tRet (tAndV (tCB (rIsi K) (tCons (tVar 0) (tCons (tC (.ty "int")) tNil))) (tAndV (tNotV (tCB (rIsi K) (tCons (tVar 0) (tCons (tC (.ty "bool")) tNil)))) (tOp (rI0 fun i j => .bl (decide (j ≤ i))) (tVar 0) (tC (.int 0)))))),
    (pss_one (ps_ret (pe_and (pe_callB call_isi (by rfl) B.isinstance (by decide +kernel) (pa_cons (pv 0) (pa_cons (pe_bty B.int rfl (by decide +kernel)) pa_nil))) (pe_and (pe_not (pe_callB call_isi (by rfl) B.isinstance (by decide +kernel) (pa_cons (pv 0) (pa_cons (pe_bty B.bool rfl (by decide +kernel)) pa_nil)))) (pe_one (pe_cmpR op_ge (pv 0) pe_int (nomark _))))))), ?_⟩
  obtain ⟨t1, g1, g2⟩ := isi_int (K := K) ha
  obtain ⟨t2, g3, g4⟩ := isi_bool (K := K) ha
  refine ⟨_, rfl, _, _, t1, _, _, rfl, .ty _, g1, g2, _, rfl, ?_⟩
  cases ha with
  | non => exact iteF k
  | str => exact iteF k
  | lst => exact iteF k
  | tup => exact iteF k
  | bl b => exact iteT ⟨_, rfl, _, _, t2, _, _, rfl, .ty _, g3, g4, _, rfl, _, rfl, iteF k⟩
  | int i => exact iteT ⟨_, rfl, _, _, t2, _, _, rfl, .ty _, g3, g4, _, rfl, _, rfl, iteT ⟨_, rfl, i, 0, rfl, rfl, k⟩⟩
/-- as FunD.ok, for a def that may let something out -/
theorem okX {x : Str} {st : Stmt} {N ps : List Str} {k : Nat} {sp : Sp} (F : FnP K x st f fd) (S : FnScope N ps (defScope st)) (len : ∀ vs H Q E, sp vs H Q E → vs.length = ps.length)
    (hbody : ∀ (cdv : Value) (A : Around) (outer : List Env) (s : Shared) (H : Hp) (vs : List V) (Q : VK) (E : XK), Room k (A.deeper (envOfC x (defScope st) s.heap.objs.size f cdv)) → sp vs H Q E →
      ∃ t, PSs (cxOf (L2.CX P w) P w K mg base N x (defScope st) f cdv A outer s H E) (defBody st) t ∧ t { nx := fun _ H' => Q .non H', rt := Q } (start N vs) H) : FnOk P w K mg base (L2.CX P w) (k + 1) f fd ps sp :=
  F.ok S len hbody
theorem sc_need_units : FnScope ["value", "ratio"] ["value"] (defScope (top 13)) := ⟨rfl, rfl, rfl, by decide +kernel, rfl, by decide +kernel, by decide +kernel⟩
theorem ok_need_units (B : Bi mg) (M : Mo mg) (X_BadUnits : Xc P w K mg base "BadUnits" A.bu "value") (C_is_from : Cal P w K mg base CX0 1 "is_from" ["value", "low", "high"] spFrom) (F : FnP K "need_units" (top 13) f fd) :
    FnOk P w K mg base (L2.CX P w) 3 f fd ["value"] (spUnits A) := by
  refine okX F sc_need_units (fun vs H Q E h => by obtain ⟨_, _, rfl, _⟩ := h; rfl) (fun cdv A' outer s H vs Q E hr h => ?_)
  obtain ⟨v, d, rfl, ha, k⟩ := h
  refine ⟨(tSeq (tIfS (tOr (tNot (tB (tCB (rIsi K) (tCons (tVar 0) (tCons (tC (.ty "tuple")) tNil))))) (tTest (tOp (rI0 fun i j => .bl (decide (j < i))) (tCB (rLenQ K) (tCons (tVar 0) tNil)) (tC (.int 3))))) (tRs A.bu "value" (fun c d _ H => E c d H) (tCons (tVar 0) tNil)) tNext)
  (tSeq (tFor (iTup K (tVar 0)) (gName 1) (tIfS (tNot (tB (tCall spFrom [] E0 (tCons (tVar 1) (tCons (tC (.int 2)) (tCons (tC (.int 10)) tNil)))))) (tRs A.bu "value" (fun c d _ H => E c d H) (tCons (tVar 0) tNil)) tNext))
  (tRet (tVar 0)))),
    (pss_cons (ps_if (PW.pt (pw_or (pt_not (pt_val (pe_callB call_isi (by rfl) B.isinstance (by decide +kernel) (pa_cons (pv 0) (pa_cons (pe_bty B.tuple rfl (by decide +kernel)) pa_nil))))) (pw_or1 (pt_cmpR op_gt (pe_callB call_lenQ (by rfl) B.len (by decide +kernel) (pa_cons (pv 0) pa_nil)) (pe_gint M.MOST_UNITS rfl) (nomark _)))))
  (pss_one (ps_rs rfl (takes_of rfl rfl rfl rfl) X_BadUnits hr (by first | decide | omega) (by rfl) (pa_cons (pv 0) pa_nil)))
  pss_nil)
  (pss_cons (ps_for (passes_of rfl) rfl (pi_tup (pv 0)) (pg_name (i := 1) sc_need_units.nd rfl (by first | exact Or.inl rfl | exact Or.inr rfl))
  (pss_one (ps_if (pt_not (pt_val (pe_cal C_is_from hr (by first | decide | omega) (by rfl) pass0 (pa_cons (pv 1) (pa_cons pe_int (pa_cons (pe_gint M.MOST_RATIO rfl) pa_nil))))))
  (pss_one (ps_rs rfl (takes_of rfl rfl rfl rfl) X_BadUnits hr (by first | decide | omega) (by rfl) (pa_cons (pv 0) pa_nil)))
  pss_nil)))
  (pss_one (ps_ret (pv 0))))), ?_⟩
  obtain ⟨t1, g1, g2⟩ := isi_tup (K := K) ha
  refine ⟨_, rfl, _, _, t1, _, _, rfl, .ty _, g1, g2, _, rfl, ?_⟩
  have raise : unitsP d = false → ∀ H1, Same H H1 → At H1 v d → ∀ dx, H1 dx = none → E (.ref A.bu) (some dx) (upd H1 dx (.xd [("value", v)])) := fun hz H1 e1 a1 => by
    rw [hz] at k
    exact Rs.go k e1 a1
  cases hd : tupP d with
  | false => exact iteT (iteT ⟨_, rfl, v, rfl, raise (by cases d <;> first | rfl | cases hd) H (Same.refl H) ha⟩)
  | true =>
    cases ha with
    | non => cases hd
    | bl => cases hd
    | int => cases hd
    | str => cases hd
    | lst => cases hd
    | @tup a xs ds hq hk =>
      refine iteF ⟨_, rfl, a, _, rfl, .inr (sqT hq), _, _, rfl, rfl, _, rfl, ?_⟩
      refine ite2 (fun h => ⟨_, rfl, _, rfl, raise ?_ H (Same.refl H) (.tup hq hk)⟩) (fun h => ?_)
      · have h := of_decide_eq_true h
        show (decide (ds.length ≤ 3) && _) = false
        rw [← hk.len, decide_eq_false (by omega)]
        rfl
      have h3 : xs.length ≤ 3 := by
        have h' : ¬ ((3 : Int) < (xs.length : Nat)) := fun z => h (decide_eq_true z)
        omega
      refine ⟨_, rfl, a, rfl, ⟨xs, sqT hq⟩, ?_⟩
      refine for_it (walk_tup (xs := xs)) (fun i σ H' => ∃ y, σ = [some (.ref a), y] ∧ H' = H ∧ (ds.take i).all (fromP 2 10) = true) ⟨none, rfl, rfl, by simp⟩ (fun i σ H' _ h => ?_) ?_ ?_
      · obtain ⟨_, _, rfl, _⟩ := h
        exact sqT hq
      · rintro i x σ H1 H2 hi ⟨y, rfl, rfl, hall⟩ hY
        obtain ⟨rfl, hx⟩ := hY
        obtain ⟨d1, e1, a1⟩ := hk.getv hx
        refine ⟨_, rfl, x, d1, 2, 10, rfl, a1, _, rfl, ?_⟩
        have et : ds.take (i + 1) = ds.take i ++ [d1] := by
          rw [List.take_succ, e1]; rfl
        cases hf : fromP 2 10 d1 with
        | true => exact iteF ⟨_, rfl, rfl, by rw [et, List.all_append, hall]; simp only [List.all_cons, hf, List.all_nil, Bool.and_self]⟩
        | false =>
          refine iteT ⟨_, rfl, _, rfl, raise ?_ _ (Same.refl _) (.tup hq hk)⟩
          have : ds.all (fromP 2 10) = false := by
            rw [List.all_eq_false]
            exact ⟨d1, List.mem_of_getElem? e1, by rw [hf]; exact Bool.false_ne_true⟩
          show (_ && ds.all (fromP 2 10)) = false
          rw [this, Bool.and_false]
      · rintro σ H1 ⟨y, rfl, rfl, hall⟩
        refine ⟨_, rfl, ?_⟩
        have e : unitsP (.tuple ds) = true := by
          show (decide (ds.length ≤ 3) && ds.all (fromP 2 10)) = true
          rw [hk.len, List.take_length] at hall
          rw [hall, ← hk.len, decide_eq_true h3]
          rfl
        rw [e] at k
        exact Ret.go k (Same.refl _) (.tup hq hk)
theorem unitsP_ex {d : PyData} (h : unitsP d = true) : ∃ us, d = dR us ∧ Us us := by
  cases d with
  | tuple ds =>
    simp only [unitsP, Bool.and_eq_true, decide_eq_true_eq] at h
    obtain ⟨h1, h2⟩ := h
    have key : ∀ ds : List PyData, ds.all (fromP 2 10) = true → ∃ us : List Int, ds = us.map PyData.int ∧ ∀ u ∈ us, 2 ≤ u ∧ u ≤ 10 := by
      intro ds
      induction ds with
      | nil => exact fun _ => ⟨[], rfl, by simp⟩
      | cons x xs ih =>
        intro h
        rw [List.all_cons, Bool.and_eq_true] at h
        obtain ⟨us, e, k⟩ := ih h.2
        have hx := h.1
        cases x with
        | int i =>
          simp only [fromP, Bool.and_eq_true, decide_eq_true_eq] at hx
          refine ⟨i :: us, by rw [e]; rfl, fun u hu => ?_⟩
          rcases List.mem_cons.mp hu with rfl | hu
          · exact hx
          · exact k u hu
        | _ => cases hx
    obtain ⟨us, e, k⟩ := key ds h2
    refine ⟨us, by rw [e]; rfl, ?_, k⟩
    rw [e, List.length_map] at h1
    exact h1
  | _ => cases h
theorem unitsP_of {us : List Int} (h : Us us) : unitsP (dR us) = true := by
  show (decide ((us.map PyData.int).length ≤ 3) && (us.map PyData.int).all (fromP 2 10)) = true
  rw [List.length_map, decide_eq_true h.1, Bool.true_and, List.all_map, List.all_eq_true]
  intro u hu
  have := h.2 u hu
  show (decide ((2 : Int) ≤ u) && decide (u ≤ 10)) = true
  rw [decide_eq_true this.1, decide_eq_true this.2]
  rfl
theorem sc_is_row : FnScope ["units", "value", "number"] ["units", "value"] (defScope (top 16)) := ⟨rfl, rfl, rfl, by decide +kernel, rfl, by decide +kernel, by decide +kernel⟩
theorem ok_is_row (B : Bi mg) (M : Mo mg) (C_is_from : Cal P w K mg base CX0 1 "is_from" ["value", "low", "high"] spFrom) (F : FnP K "is_row" (top 16) f fd) :
    FnOk P w K mg base CX0 2 f fd ["units", "value"] spIsRow := by
  refine ok0 F sc_is_row (fun vs H Q E h => by obtain ⟨_, _, _, _, rfl, _⟩ := h; rfl) (fun cdv A' outer s H vs Q E hr h => ?_)
  obtain ⟨u, v, us, d, rfl, hu, ha, k⟩ := h
  obtain ⟨p, rfl, hp⟩ := hu.of_row
  refine ⟨(tSeq (tIfS (tOr (tNot (tB (tCB (rIsi K) (tCons (tVar 1) (tCons (tC (.ty "tuple")) tNil))))) (tTest (tOp rNe (tCB (rLenQ K) (tCons (tVar 1) tNil)) (tOp (rI0 fun i j => .int (i + j)) (tCB (rLenQ K) (tCons (tVar 0) tNil)) (tC (.int 1)))))) (tRet (tC (.bl false))) tNext)
  (tSeq (tFor (iTup K (tVar 1)) (gName 2) (tIfS (tNot (tB (tCall spFrom [] E0 (tCons (tVar 2) (tCons (tC (.int 0)) (tCons (tC (.int (10 ^ 60))) tNil)))))) (tRet (tC (.bl false))) tNext))
  (tRet (tC (.bl true))))),
    (pss_cons (ps_if (PW.pt (pw_or (pt_not (pt_val (pe_callB call_isi (by rfl) B.isinstance (by decide +kernel) (pa_cons (pv 1) (pa_cons (pe_bty B.tuple rfl (by decide +kernel)) pa_nil))))) (pw_or1 (pt_cmpR op_ne (pe_callB call_lenQ (by rfl) B.len (by decide +kernel) (pa_cons (pv 1) pa_nil)) (pe_op op_add (pe_callB call_lenQ (by rfl) B.len (by decide +kernel) (pa_cons (pv 0) pa_nil)) pe_int) (nomark _)))))
  (pss_one (ps_ret pe_bl))
  pss_nil)
  (pss_cons (ps_for PassesOwn.never rfl (pi_tup (pv 1)) (pg_name (i := 2) sc_is_row.nd rfl (by first | exact Or.inl rfl | exact Or.inr rfl))
  (pss_one (ps_if (pt_not (pt_val (pe_cal C_is_from hr (by first | decide | omega) (by rfl) pass0 (pa_cons (pv 2) (pa_cons pe_int (pa_cons (pe_gint M.MOST_PIECES rfl) pa_nil))))))
  (pss_one (ps_ret pe_bl))
  pss_nil)))
  (pss_one (ps_ret pe_bl)))), ?_⟩
  obtain ⟨t1, g1, g2⟩ := isi_tup (K := K) ha
  refine ⟨_, rfl, _, _, t1, _, _, rfl, .ty _, g1, g2, _, rfl, ?_⟩
  cases ha with
  | non => exact iteT (iteT k)
  | bl => exact iteT (iteT k)
  | int => exact iteT (iteT k)
  | str => exact iteT (iteT k)
  | lst => exact iteT (iteT k)
  | @tup a xs ds hq hk =>
    have k : Q (.bl (decide (ds.length = us.length + 1) && ds.all (fromP 0 (10 ^ 60)))) H := k
    refine iteF ⟨_, rfl, a, _, rfl, .inr (sqT hq), _, rfl, p, _, rfl, .inr (sqT hp), _, _, rfl, rfl, rfl, _, rfl, ?_⟩
    rw [← hk.len] at k
    by_cases hl : xs.length = us.length + 1
    · rw [decide_eq_true (by rw [List.length_map, hl]; rfl)]
      refine iteF ⟨_, rfl, a, rfl, ⟨xs, sqT hq⟩, ?_⟩
      rw [decide_eq_true hl, Bool.true_and] at k
      refine for_it (walk_tup (xs := xs)) (fun i σ H' => ∃ y, σ = [some (.ref p), some (.ref a), y] ∧ H' = H ∧ (ds.take i).all (fromP 0 (10 ^ 60)) = true) ⟨none, rfl, rfl, by simp⟩ (fun i σ H' _ h => ?_) ?_ ?_
      · obtain ⟨_, _, rfl, _⟩ := h
        exact sqT hq
      · rintro i x σ H1 H2 hi ⟨y, rfl, rfl, hall⟩ hY
        obtain ⟨rfl, hx⟩ := hY
        obtain ⟨d1, e1, a1⟩ := hk.getv hx
        refine ⟨_, rfl, x, d1, 0, 10 ^ 60, rfl, a1, _, rfl, ?_⟩
        have et : ds.take (i + 1) = ds.take i ++ [d1] := by
          rw [List.take_succ, e1]; rfl
        cases hf : fromP 0 (10 ^ 60) d1 with
        | true => exact iteF ⟨_, rfl, rfl, by rw [et, List.all_append, hall]; simp only [List.all_cons, hf, List.all_nil, Bool.and_self]⟩
        | false =>
          have : ds.all (fromP 0 (10 ^ 60)) = false := by
            rw [List.all_eq_false]
            exact ⟨d1, List.mem_of_getElem? e1, by rw [hf]; exact Bool.false_ne_true⟩
          rw [this] at k
          exact iteT k
      · rintro σ H1 ⟨y, rfl, rfl, hall⟩
        rw [hk.len, List.take_length] at hall
        rw [hall] at k
        exact k
    · rw [decide_eq_false (by rw [List.length_map]; intro z; injection z with z; omega)]
      rw [decide_eq_false hl, Bool.false_and] at k
      exact iteT k
theorem sc_need_row : FnScope ["units", "value"] ["units", "value"] (defScope (top 17)) := ⟨rfl, rfl, rfl, by decide +kernel, rfl, by decide +kernel, by decide +kernel⟩
theorem ok_need_row (B : Bi mg) (X_BadRow : Xc P w K mg base "BadRow" A.br "value") (C_is_row : Cal P w K mg base CX0 2 "is_row" ["units", "value"] spIsRow) (C_need_units : Cal P w K mg base (L2.CX P w) 3 "need_units" ["value"] (spUnits A)) (F : FnP K "need_row" (top 17) f fd) :
    FnOk P w K mg base (L2.CX P w) 4 f fd ["units", "value"] (spNeedRow A) := by
  refine okX F sc_need_row (fun vs H Q E h => by obtain ⟨_, _, _, _, rfl, _⟩ := h; rfl) (fun cdv A' outer s H vs Q E hr h => ?_)
  obtain ⟨u, v, us, d, rfl, hu, hU, ha, k⟩ := h
  refine ⟨(tSeq (tDrop (tCall (spUnits A) [] E (tCons (tVar 0) tNil)))
  (tSeq (tIfS (tNot (tB (tCall spIsRow [] E0 (tCons (tVar 0) (tCons (tVar 1) tNil))))) (tRs A.br "value" (fun c d _ H => E c d H) (tCons (tVar 1) tNil)) tNext)
  (tRet (tVar 1)))),
    (pss_cons (ps_expr (pe_cal C_need_units hr (by first | decide | omega) (by rfl) (passes_call (takes_of rfl rfl rfl rfl) (fun _ _ _ _ h => h)) (pa_cons (pv 0) pa_nil)))
  (pss_cons (ps_if (pt_not (pt_val (pe_cal C_is_row hr (by first | decide | omega) (by rfl) pass0 (pa_cons (pv 0) (pa_cons (pv 1) pa_nil)))))
  (pss_one (ps_rs rfl (takes_of rfl rfl rfl rfl) X_BadRow hr (by first | decide | omega) (by rfl) (pa_cons (pv 1) pa_nil)))
  pss_nil)
  (pss_one (ps_ret (pv 1))))), ?_⟩
  refine ⟨_, rfl, u, _, rfl, hu, ?_⟩
  rw [if_pos (unitsP_of hU)]
  intro v1 H1 e1 a1
  refine ⟨_, rfl, _, rfl, u, v, us, d, rfl, hu.mono e1, ha.mono e1, _, rfl, ?_⟩
  cases h : rowP us.length d with
  | true =>
    rw [h] at k
    exact iteF ⟨_, rfl, Ret.go k e1 (ha.mono e1)⟩
  | false =>
    rw [h] at k
    exact iteT ⟨_, rfl, v, rfl, Rs.go k e1 (ha.mono e1)⟩
theorem sc_is_yard : FnScope ["units", "value"] ["units", "value"] (defScope (top 30)) := ⟨rfl, rfl, rfl, by decide +kernel, rfl, by decide +kernel, by decide +kernel⟩
theorem ok_is_yard (B : Bi mg) (C_is_row : Cal P w K mg base CX0 2 "is_row" ["units", "value"] spIsRow) (F : FnP K "is_yard" (top 30) f fd) :
    FnOk P w K mg base CX0 3 f fd ["units", "value"] spIsYard := by
  refine ok0 F sc_is_yard (fun vs H Q E h => by obtain ⟨_, _, _, _, rfl, _⟩ := h; rfl) (fun cdv A' outer s H vs Q E hr h => ?_)
  obtain ⟨u, v, us, d, rfl, hu, ha, k⟩ := h
  refine ⟨(tSeq (tIfS (tOr (tNot (tB (tCB (rIsi K) (tCons (tVar 1) (tCons (tC (.ty "tuple")) tNil))))) (tOr (tTest (tOp rNe (tCB (rLenQ K) (tCons (tVar 1) tNil)) (tC (.int 3)))) (tNot (tB (tCB (rIsi K) (tCons (tOp (rIxT K) (tVar 1) (tC (.int 2))) (tCons (tC (.ty "tuple")) tNil))))))) (tRet (tC (.bl false))) tNext)
  (tRet (tAndV (tCall spIsRow [] E0 (tCons (tVar 0) (tCons (tOp (rIxT K) (tVar 1) (tC (.int 0))) tNil))) (tCall spIsRow [] E0 (tCons (tVar 0) (tCons (tOp (rIxT K) (tVar 1) (tC (.int 1))) tNil)))))),
    (pss_cons (ps_if (PW.pt (pw_or (pt_not (pt_val (pe_callB call_isi (by rfl) B.isinstance (by decide +kernel) (pa_cons (pv 1) (pa_cons (pe_bty B.tuple rfl (by decide +kernel)) pa_nil))))) (pw_or (pt_cmpR op_ne (pe_callB call_lenQ (by rfl) B.len (by decide +kernel) (pa_cons (pv 1) pa_nil)) pe_int (nomark _)) (pw_or1 (pt_not (pt_val (pe_callB call_isi (by rfl) B.isinstance (by decide +kernel) (pa_cons (pe_ix ix_tup (pv 1) pe_int (fun _ _ => rfl)) (pa_cons (pe_bty B.tuple rfl (by decide +kernel)) pa_nil)))))))))
  (pss_one (ps_ret pe_bl))
  pss_nil)
  (pss_one (ps_ret (pe_and (pe_cal C_is_row hr (by first | decide | omega) (by rfl) pass0 (pa_cons (pv 0) (pa_cons (pe_ix ix_tup (pv 1) pe_int (fun _ _ => rfl)) pa_nil))) (pe_one (pe_cal C_is_row hr (by first | decide | omega) (by rfl) pass0 (pa_cons (pv 0) (pa_cons (pe_ix ix_tup (pv 1) pe_int (fun _ _ => rfl)) pa_nil)))))))), ?_⟩
  obtain ⟨t1, g1, g2⟩ := isi_tup (K := K) ha
  refine ⟨_, rfl, _, _, t1, _, _, rfl, .ty _, g1, g2, _, rfl, ?_⟩
  cases ha with
  | non => exact iteT (iteT k)
  | bl => exact iteT (iteT k)
  | int => exact iteT (iteT k)
  | str => exact iteT (iteT k)
  | lst => exact iteT (iteT k)
  | @tup a xs ds hq hk =>
    refine iteF ⟨_, rfl, a, _, rfl, .inr (sqT hq), rfl, _, rfl, ?_⟩
    by_cases hl : xs.length = 3
    · rw [decide_eq_true (by rw [hl]; rfl)]
      have hl' := hk.len
      obtain ⟨x0, x1, x2, rfl⟩ : ∃ x0 x1 x2, xs = [x0, x1, x2] := by
        match xs, hl with
        | [x0, x1, x2], _ => exact ⟨_, _, _, rfl⟩
      obtain ⟨d0, d1, d2, rfl⟩ : ∃ d0 d1 d2, ds = [d0, d1, d2] := by
        match ds, hl' with
        | [x0, x1, x2], _ => exact ⟨_, _, _, rfl⟩
      cases hk with
      | cons h0 hk =>
        cases hk with
        | cons h1 hk =>
          cases hk with
          | cons h2 hk =>
            obtain ⟨t2, g3, g4⟩ := isi_tup (K := K) h2
            refine iteF ⟨_, rfl, a, _, 2, _, rfl, rfl, sqT hq, atI_nat (j := 2) rfl, _, _, t2, _, _, rfl, .ty _, g3, g4, _, rfl, ?_⟩
            cases hd : tupP d2 with
            | false =>
              refine iteT ?_
              have e : yardP us.length (.tuple [d0, d1, d2]) = false := by cases d2 <;> first | rfl | cases hd
              rw [e] at k
              exact k
            | true =>
              refine iteF ⟨_, rfl, _, rfl, a, _, 0, _, rfl, rfl, sqT hq, atI_nat (j := 0) rfl, u, x0, us, d0, rfl, hu, h0, _, rfl, ?_⟩
              have e : yardP us.length (.tuple [d0, d1, d2]) = (rowP us.length d0 && rowP us.length d1) := by cases d2 <;> first | rfl | cases hd
              rw [e] at k
              cases h : rowP us.length d0 with
              | false => rw [h] at k; exact iteF k
              | true =>
                rw [h] at k
                exact iteT ⟨_, rfl, _, rfl, a, _, 1, _, rfl, rfl, sqT hq, atI_nat (j := 1) rfl, u, x1, us, d1, rfl, hu, h1, k⟩
    · rw [decide_eq_false (by intro z; injection z with z; omega)]
      refine iteT (iteT ?_)
      have e : yardP us.length (.tuple ds) = false := by
        match ds, hk.len with
        | [], _ => rfl
        | [_], _ => rfl
        | [_, _], _ => rfl
        | [_, _, _], z => exact absurd z hl
        | _ :: _ :: c :: _ :: _, _ => cases c <;> rfl
      rw [e] at k
      exact k
end
end K26
set_option Elab.async false
set_option linter.all false
set_option maxRecDepth 100000
set_option maxHeartbeats 4000000
namespace K26
open PySem PySem.Spec PyProof.Rows L2 RZ RT
/-! ## a list that grows and shrinks -/
theorem same_del {H : Hp} {l : Addr} : Same (del H l) H := fun a u h => by
  by_cases z : a = l
  · rw [z, del_same] at h; cases h
  · rwa [del_ne z] at h
theorem del_upd {H : Hp} {l : Addr} {o : HO} : del (upd H l o) l = del H l := by
  funext b
  by_cases z : b = l
  · rw [z, del_same, del_same]
  · rw [del_ne z, del_ne z, upd_ne z]
theorem same_del2 {H H' : Hp} {l : Addr} (e : Same H H') : Same (del H l) (del H' l) := fun a u h => by
  by_cases z : a = l
  · rw [z, del_same] at h; cases h
  · rw [del_ne z] at h ⊢; exact e a u h
theorem same_to_del {H H' : Hp} {l : Addr} (e : Same H H') (h : H l = none) : Same H (del H' l) := fun a u k => by
  rw [del_ne (ne_of_none k h)]; exact e a u k
theorem AtAll.snoc {H : Hp} : ∀ {ds : List PyData} {d : PyData} {xs : List V}, AtAll H xs (ds ++ [d]) → ∃ ys y, xs = ys ++ [y] ∧ AtAll H ys ds ∧ At H y d
  | [], _, _, h => by
    cases h with
    | cons h k => cases k; exact ⟨[], _, rfl, .nil, h⟩
  | e :: ds, d, _, h => by
    cases h with
    | cons h k =>
      obtain ⟨ys, y, rfl, h1, h2⟩ := AtAll.snoc k
      exact ⟨_ :: ys, y, rfl, .cons h h1, h2⟩
theorem last_snoc {ys : List V} {y : V} : (ys ++ [y])[(ys ++ [y]).length - 1]? = some y := by
  rw [List.length_append, List.length_singleton, Nat.add_sub_cancel, List.getElem?_append_right (Nat.le_refl _), Nat.sub_self]
  rfl
theorem canLay_all {ds : List PyData} (h : ∀ d ∈ ds, d.canLay0 = true) : PyData.canLayAll0 ds = true := by
  induction ds with
  | nil => simp [PyData.canLayAll0]
  | cons d ds ih => simp [PyData.canLayAll0, h d List.mem_cons_self, ih fun x hx => h x (List.mem_cons_of_mem _ hx)]
theorem canLay_dR (l : List Int) : (dR l).canLay0 = true := by
  unfold dR
  rw [PyData.canLay0]
  refine canLay_all fun d hd => ?_
  obtain ⟨i, _, rfl⟩ := List.mem_map.mp hd
  simp [PyData.canLay0]
theorem canLay_mem {ds : List PyData} (h : (PyData.tuple ds).canLay0 = true) {d : PyData} (hd : d ∈ ds) : d.canLay0 = true := by
  rw [PyData.canLay0] at h
  induction ds with
  | nil => cases hd
  | cons x xs ih =>
    rw [PyData.canLayAll0, Bool.and_eq_true] at h
    rcases List.mem_cons.mp hd with rfl | hd
    · exact h.1
    · exact ih h.2 hd
def rNeNil : R2 := fun x y H Q => ∃ l a xs ds, x = .ref l ∧ y = .ref a ∧ H l = some (.lst xs) ∧ H a = some (.lst []) ∧ AtAll H xs ds ∧ (PyData.list ds).canLay0 = true ∧ Q (.bl (!ds.isEmpty)) H
theorem op_neNil {X : Cx} (hu : X.A.units + 64 < cLine) : OpR X (compareOp .NotEq) rNeNil := by
  intro pins s σ H x y v u Q I rx ry h
  obtain ⟨l, a, xs, ds, rfl, rfl, hl, ha, hk, hc, q⟩ := h
  obtain ⟨as, r1⟩ := Dp.reads I (.list ds) _ v (.lst (sqL hl) hk.dp) rx
  obtain ⟨bs, r2⟩ := Dp.reads I (.list []) _ u (.lst (sqL ha) .nil) ry
  refine SeqAt.compareNe_reads r1 r2 hc rfl ?_ ⟨.bl _, H, I, rfl, ?_⟩
  · have : min (PyData.list ds).depth (PyData.list []).depth ≤ 1 := Nat.le_trans (Nat.min_le_right _ _) (by simp [PyData.depth, PyData.depthAll])
    omega
  · have e : PyData.eqv (.list ds) (.list []) = ds.isEmpty := by cases ds <;> simp [PyData.eqv, PyData.eqvAll]
    rw [e]
    exact q
/-- rows side by side, one of them new -/
theorem cat_row {K : PySem.W.Frag} {H : Hp} {Q : VK} {a b : Addr} {p q : List Int} (ha : At H (.ref a) (dR p)) (hb : At H (.ref b) (dR q)) (hz : p.length + q.length ≤ 100000) (k : Ret H Q (dR (p ++ q))) : rCatA K (.ref a) (.ref b) H Q := by
  obtain ⟨a', e, ha'⟩ := ha.of_row
  cases e
  obtain ⟨b', e, hb'⟩ := hb.of_row
  cases e
  refine ⟨a, b, _, _, rfl, rfl, sqT ha', sqT hb', by rw [List.length_map, List.length_map]; exact small_ hz, fun e => ?_, fun _ e => ?_, fun _ _ t ht => ?_⟩
  · have e : p = [] := by simpa using e
    subst e
    exact k.go (Same.refl _) hb
  · have e : q = [] := by simpa using e
    subst e
    rw [List.append_nil] at k
    exact k.go (Same.refl _) ha
  · refine k.go (same_new ht) (At.row ?_)
    rw [upd_same, List.map_append]
theorem At.two {H : Hp} {v : V} {d e : PyData} (h : At H v (.tuple [d, e])) : ∃ a x y, v = .ref a ∧ H a = some (.tup [x, y]) ∧ At H x d ∧ At H y e := by
  obtain ⟨a, xs, rfl, h1, h2⟩ := h.of_tup
  cases h2 with
  | cons k1 h2 =>
    cases h2 with
    | cons k2 h2 =>
      cases h2
      exact ⟨a, _, _, rfl, h1, k1, k2⟩
theorem At.three {H : Hp} {v : V} {d e g : PyData} (h : At H v (.tuple [d, e, g])) : ∃ a x y z, v = .ref a ∧ H a = some (.tup [x, y, z]) ∧ At H x d ∧ At H y e ∧ At H z g := by
  obtain ⟨a, xs, rfl, h1, h2⟩ := h.of_tup
  cases h2 with
  | cons k1 h2 =>
    cases h2 with
    | cons k2 h2 =>
      cases h2 with
      | cons k3 h2 =>
        cases h2
        exact ⟨a, _, _, _, rfl, h1, k1, k2, k3⟩
theorem At.del_row {H : Hp} {v : V} {p : List Int} {l : Addr} {xs : List V} (h : At H v (dR p)) (hl : H l = some (.lst xs)) : At (del H l) v (dR p) := by
  obtain ⟨a, rfl, ha⟩ := h.of_row
  refine At.row ?_
  rw [del_ne (fun z => by rw [z, hl] at ha; cases ha)]
  exact ha
/-! ## need_tree -/
def unP : PyData → List PyData
  | .tuple [_, _, .tuple un] => un
  | _ => []
def kidsP (p : List Int) : Nat → List PyData → List (List Int × PyData)
  | _, [] => []
  | i, d :: ds => (p ++ [2, (i : Int)], d) :: kidsP p (i + 1) ds
def lineP (n : Nat) : Nat → List (List Int × PyData) → Option Out
  | _, [] => none
  | 0, _ :: _ => some .great
  | k + 1, (p, d) :: r => if yardP n d then lineP n k (kidsP p 0 ((unP d).take 8) ++ r) else some (.tree (dR p))
theorem lineP_nil {n m : Nat} : lineP n m [] = none := by cases m <;> rfl
def lenP : PyData → Nat
  | .tuple ds => ds.length
  | _ => 0
def needTreeP (u v : PyData) : Out := if unitsP u then (lineP (lenP u) 8 [([], v)]).getD (.ok v) else .units u
def itemP (q : List Int × PyData) : PyData := .tuple [dR q.1, q.2]
theorem kidsP_len {p : List Int} : ∀ {i : Nat} {ds : List PyData}, (kidsP p i ds).length = ds.length
  | _, [] => rfl
  | i, d :: ds => by simp [kidsP, kidsP_len]
theorem kidsP_drop {p : List Int} : ∀ {j i : Nat} {ds : List PyData}, (kidsP p i ds).drop j = kidsP p (i + j) (ds.drop j)
  | 0, _, _ => rfl
  | j + 1, _, [] => by simp [kidsP]
  | j + 1, i, d :: ds => by
    simp only [kidsP, List.drop_succ_cons]
    rw [kidsP_drop, show i + 1 + j = i + (j + 1) by omega]
theorem kidsP_step {p : List Int} {j : Nat} {ds : List PyData} {d : PyData} (h : ds[j]? = some d) : (kidsP p 0 ds).drop j = (p ++ [2, (j : Int)], d) :: (kidsP p 0 ds).drop (j + 1) := by
  obtain ⟨h1, e1⟩ := List.getElem?_eq_some_iff.mp h
  rw [kidsP_drop, kidsP_drop, List.drop_eq_getElem_cons h1, e1]
  simp only [kidsP, Nat.zero_add]
theorem kidsP_mem {p : List Int} : ∀ {i : Nat} {ds : List PyData} {q : List Int × PyData}, q ∈ kidsP p i ds → q.2 ∈ ds
  | _, [], _, h => by cases h
  | i, d :: ds, q, h => by
    rcases List.mem_cons.mp h with rfl | h
    · exact List.mem_cons_self
    · exact List.mem_cons_of_mem _ (kidsP_mem h)
theorem kidsP_path {p : List Int} : ∀ {i : Nat} {ds : List PyData} {q : List Int × PyData}, q ∈ kidsP p i ds → q.1.length = p.length + 2
  | _, [], _, h => by cases h
  | i, d :: ds, q, h => by
    rcases List.mem_cons.mp h with rfl | h
    · simp
    · exact kidsP_path h
theorem yardP_ex {n : Nat} {d : PyData} (h : yardP n d = true) : ∃ s a un, d = .tuple [s, a, .tuple un] := by
  unfold yardP at h
  split at h
  · exact ⟨_, _, _, rfl⟩
  · cases h
def spNeedTree (A : XA) : Sp := fun vs H Q E => ∃ (u v : V) (U d : PyData), vs = [u, v] ∧ At H u U ∧ At H v d ∧ d.canLay0 = true ∧ Go A H Q E (needTreeP U d)
section
variable {P : Program} {w : World} {K : PySem.W.Frag} {mg : Str → Option Value} {base : Heap} {f : Addr} {fd : FuncData} {A : XA}
theorem sc_need_tree : FnScope ["units", "value", "line", "count", "path", "here", "index"] ["units", "value"] (defScope (top 31)) := ⟨rfl, rfl, rfl, by decide +kernel, rfl, by decide +kernel, by decide +kernel⟩
theorem ok_need_tree (B : Bi mg) (M : Mo mg) (X_TooGreat : Xc P w K mg base "TooGreat" A.tg "most") (X_BadTree : Xc P w K mg base "BadTree" A.bt "path") (C_is_yard : Cal P w K mg base CX0 3 "is_yard" ["units", "value"] spIsYard) (C_need_units : Cal P w K mg base (L2.CX P w) 3 "need_units" ["value"] (spUnits A)) (F : FnP K "need_tree" (top 31) f fd) :
    FnOk P w K mg base (L2.CX P w) 4 f fd ["units", "value"] (spNeedTree A) := by
  refine okX F sc_need_tree (fun vs H Q E h => by obtain ⟨_, _, _, _, rfl, _⟩ := h; rfl) (fun cdv A' outer s H vs Q E hr h => ?_)
  obtain ⟨u, v, U, d0, rfl, hu, hv, hc, k⟩ := h
  refine ⟨(tSeq (tDrop (tCall (spUnits A) [] E (tCons (tVar 0) tNil)))
  (tSeq (tAsg (tLst (tCons (tTup (tCons (tTup tNil) (tCons (tVar 1) tNil))) tNil)) (gName 2))
  (tSeq (tAsg (tC (.int 0)) (gName 3))
  (tSeq (tWhile (tTest (tOp rNeNil (tVar 2) (tLst tNil))) (tSeq (tAsg (tBM0 K "list" rPop (tVar 2)) (gTup K 2 (gCons (gName 4) (gCons (gName 5) gNil))))
  (tSeq (tAsg (tOp (rI0 fun i j => .int (i + j)) (tVar 3) (tC (.int 1))) (gName 3))
  (tSeq (tIfS (tTest (tOp (rI0 fun i j => .bl (decide (j < i))) (tVar 3) (tC (.int 8)))) (tRs A.tg "most" (fun c d _ H => E c d H) (tCons (tC (.int 8)) tNil)) tNext)
  (tSeq (tIfS (tNot (tB (tCall spIsYard [] E0 (tCons (tVar 0) (tCons (tVar 5) tNil))))) (tRs A.bt "path" (fun c d _ H => E c d H) (tCons (tVar 4) tNil)) tNext)
  (tFor (iRevR (tRg1 (tCB rMin2Q (tCons (tCB (rLenQ K) (tCons (tOp (rIxT K) (tVar 5) (tC (.int 2))) tNil)) (tCons (tC (.int 8)) tNil))))) (gName 6) (tDrop (tBM K "list" rAppend (tVar 2) (tCons (tTup (tCons (tOp (rCatA K) (tVar 4) (tTup (tCons (tC (.int 2)) (tCons (tVar 6) tNil)))) (tCons (tOp (rIxT K) (tOp (rIxT K) (tVar 5) (tC (.int 2))) (tVar 6)) tNil))) tNil)))))))))
  (tRet (tVar 1)))))),
    (pss_cons (ps_expr (pe_cal C_need_units hr (by first | decide | omega) (by rfl) (passes_call (takes_of rfl rfl rfl rfl) (fun _ _ _ _ h => h)) (pa_cons (pv 0) pa_nil)))
  (pss_cons (ps_set (i := 2) sc_need_tree.nd rfl (by first | exact Or.inl rfl | exact Or.inr rfl) (pe_lst (pa_cons (pe_tup (pa_cons (pe_tup pa_nil) (pa_cons (pv 1) pa_nil))) pa_nil)))
  (pss_cons (ps_set (i := 3) sc_need_tree.nd rfl (by first | exact Or.inl rfl | exact Or.inr rfl) pe_int)
  (pss_cons (ps_while (passes_of rfl) (pt_cmpR (op_neNil hr.units) (pv 2) (pe_lst pa_nil) (nomark _))
  (pss_cons (ps_asg (pe_bm0 PySem.F.plainAttrs_list PySem.F.slot_list_pop PySem.F.type_list_pop mt_pop (pv 2)) (pg_tup rfl (pgs_cons (pg_name (i := 4) sc_need_tree.nd rfl (by first | exact Or.inl rfl | exact Or.inr rfl)) (pgs_cons (pg_name (i := 5) sc_need_tree.nd rfl (by first | exact Or.inl rfl | exact Or.inr rfl)) pgs_nil))))
  (pss_cons (ps_set (i := 3) sc_need_tree.nd rfl (by first | exact Or.inl rfl | exact Or.inr rfl) (pe_op op_add (pv 3) pe_int))
  (pss_cons (ps_if (pt_cmpR op_gt (pv 3) (pe_gint M.MOST_YARDS rfl) (nomark _))
  (pss_one (ps_rs rfl (takes_of rfl rfl rfl rfl) X_TooGreat hr (by first | decide | omega) (by rfl) (pa_cons (pe_gint M.MOST_YARDS rfl) pa_nil)))
  pss_nil)
  (pss_cons (ps_if (pt_not (pt_val (pe_cal C_is_yard hr (by first | decide | omega) (by rfl) pass0 (pa_cons (pv 0) (pa_cons (pv 5) pa_nil)))))
  (pss_one (ps_rs rfl (takes_of rfl rfl rfl rfl) X_BadTree hr (by first | decide | omega) (by rfl) (pa_cons (pv 4) pa_nil)))
  pss_nil)
  (pss_one (ps_for (passes_of rfl) rfl (pi_revR (by rfl) B.reversed (prg_1 (by rfl) B.range (pe_callB (call_min2Q rfl) (by rfl) B.min (by decide +kernel) (pa_cons (pe_callB call_lenQ (by rfl) B.len (by decide +kernel) (pa_cons (pe_ix ix_tup (pv 5) pe_int (fun _ _ => rfl)) pa_nil)) (pa_cons (pe_gint M.MOST_YARDS rfl) pa_nil))))) (pg_name (i := 6) sc_need_tree.nd rfl (by first | exact Or.inl rfl | exact Or.inr rfl))
  (pss_one (ps_expr (pe_bm PySem.F.plainAttrs_list PySem.F.slot_list_append PySem.F.type_list_append mt_append (pv 2) (pa_cons (pe_tup (pa_cons (pe_op op_catA (pv 4) (pe_tup (pa_cons pe_int (pa_cons (pv 6) pa_nil)))) (pa_cons (pe_ix ix_tup (pe_ix ix_tup (pv 5) pe_int (fun _ _ => rfl)) (pv 6) (fun _ _ => rfl)) pa_nil))) pa_nil)))))))))))
  (pss_one (ps_ret (pv 1))))))), ?_⟩
  refine ⟨_, rfl, u, U, rfl, hu, ?_⟩
  unfold needTreeP at k
  cases hU : unitsP U with
  | false =>
    rw [hU] at k
    exact k
  | true =>
    rw [hU, if_pos rfl] at k
    rw [if_pos rfl]
    intro v1 H1 e1 a1
    obtain ⟨us, rfl, hUs⟩ := unitsP_ex hU
    have hlen : lenP (dR us) = us.length := by simp [lenP, dR]
    rw [hlen] at k
    -- line = [((), value)]
    refine ⟨small_ (by simp), fun t1 ht1 => ⟨_, rfl, small_ (by simp), fun t2 ht2 => ⟨small_ (by simp), fun l hl => ?_⟩⟩⟩
    have n1 : Same H1 (upd H1 t1 (.tup [])) := same_new ht1
    have n2 := same_new (o := .tup [.ref t1, v]) ht2
    have n3 := same_new (o := .lst [.ref t2]) hl
    have hlH : H l = none := by
      cases hz : H l with
      | none => rfl
      | some o =>
        have := (e1.trans (n1.trans n2)) _ _ hz
        rw [hl] at this; cases this
    have e3 := e1.trans (n1.trans n2)
    refine ⟨fun m σ H' => ∃ y4 y5 y6 r xs, σ = [some u, some v, some (.ref l), some (.int ((8 - m : Nat) : Int)), y4, y5, y6] ∧ m ≤ 8 ∧ Same H (del H' l) ∧ H' l = some (.lst xs) ∧ AtAll (del H' l) xs (r.map itemP).reverse ∧ lineP us.length m r = lineP us.length 8 [([], d0)] ∧ r.length ≤ 1 + 8 * (8 - m) ∧ ∀ q ∈ r, q.2.canLay0 = true ∧ q.1.length ≤ 2 * (8 - m), ⟨8, none, none, none, [([], d0)], [.ref t2], rfl, Nat.le_refl _, ?_, upd_same, ?_, rfl, by simp, by simpa using hc⟩, ?_⟩
    · rw [del_upd]
      exact same_to_del e3 hlH
    · rw [del_upd]
      refine .cons ?_ .nil
      refine At.mono (same_to_del (Same.refl _) hl) ?_
      exact .tup upd_same (.cons ((At.tup (xs := []) (ds := []) upd_same .nil).mono n2) (.cons (hv.mono e3) .nil))
    · rintro m σ H2 ⟨y4, y5, y6, r, xs, rfl, hm, e2, hl2, hx, hL, hlen, hcl⟩
      refine ⟨_, rfl, ?_⟩
      refine ⟨small_ (by simp), fun t3 ht3 => ?_⟩
      have n4 := same_new (o := .lst []) ht3
      have hl3 := n4 _ _ hl2
      refine ⟨l, t3, xs, _, rfl, rfl, hl3, upd_same, (hx.mono same_del).mono n4, ?_, _, rfl, ?_⟩
      · rw [PyData.canLay0]
        refine canLay_all fun d hd => ?_
        rw [List.mem_reverse] at hd
        obtain ⟨q, hq, rfl⟩ := List.mem_map.mp hd
        have := (hcl q hq).1
        simp [itemP, PyData.canLay0, PyData.canLayAll0, canLay_dR, this]
      cases r with
      | nil =>
        refine iteF ⟨_, rfl, ?_⟩
        rw [← hL, lineP_nil] at k
        have k : Ret H Q d0 := k
        exact k.go ((e2.trans same_del).trans n4) ((hv.mono e2).mono (same_del.trans n4))
      | cons q r =>
        have e0 : (!((q :: r).map itemP).reverse.isEmpty) = true := by simp
        rw [e0]
        refine iteT ⟨fun σ' H' => ∃ m', m' < m ∧ _, fun _ _ h => h, ?_⟩
        obtain ⟨p, d⟩ := q
        have hx' : AtAll (del H2 l) xs ((r.map itemP).reverse ++ [itemP (p, d)]) := by simpa using hx
        obtain ⟨ys, y, rfl, hys, hy⟩ := hx'.snoc
        obtain ⟨T, x0, x1, rfl, hT, h0, h1⟩ := hy.two
        obtain ⟨cd, cp⟩ := hcl (p, d) List.mem_cons_self
        -- path, here = line.pop()
        refine ⟨_, rfl, .inl ⟨rfl, _, sqL hl3⟩, l, _, _, rfl, rfl, hl3, last_snoc, ?_⟩
        rw [List.dropLast_concat]
        generalize hH4 : upd (upd H2 t3 (.lst [])) l (.lst ys) = H4
        have eG : del H4 l = del (upd H2 t3 (.lst [])) l := by rw [← hH4, del_upd]
        have sG : Same (del H2 l) (del H4 l) := by rw [eG]; exact same_del2 n4
        have l4 : H4 l = some (.lst ys) := by rw [← hH4, upd_same]
        have e4 := e2.trans sG
        have e5 : Same H H4 := e4.trans same_del
        have g4 : Same (del H2 l) H4 := sG.trans same_del
        refine ⟨T, _, rfl, sqT (g4 _ _ hT), rfl, _, _, rfl, _, _, rfl, rfl, ?_⟩
        -- count
        refine ⟨_, rfl, _, 1, rfl, rfl, _, rfl, _, 8, rfl, rfl, _, rfl, ?_⟩
        cases m with
        | zero =>
          have hk : lineP us.length 0 ((p, d) :: r) = some .great := rfl
          rw [← hL, hk] at k
          refine iteT ⟨.int 8, rfl, Rs.go k e5 (.int 8)⟩
        | succ m =>
          rw [decide_eq_false (show ¬ ((8 : Int) < ((8 - (m + 1) : Nat) : Int) + 1) by omega)]
          have h1' := h1.mono g4
          refine iteF ⟨_, rfl, _, rfl, u, x1, us, d, rfl, hu.mono e5, h1', _, rfl, ?_⟩
          cases hY : yardP us.length d with
          | false =>
            have hk : lineP us.length (m + 1) ((p, d) :: r) = some (.tree (dR p)) := by rw [lineP, hY]; rfl
            rw [← hL, hk] at k
            exact iteT ⟨_, rfl, x0, rfl, Rs.go k e5 (h0.mono g4)⟩
          | true =>
            have hk : lineP us.length (m + 1) ((p, d) :: r) = lineP us.length m (kidsP p 0 ((unP d).take 8) ++ r) := by rw [lineP, hY]; rfl
            rw [hk] at hL
            obtain ⟨ds, da, un, rfl⟩ := yardP_ex hY
            have hun : unP (.tuple [ds, da, .tuple un]) = un := rfl
            rw [hun] at hL
            obtain ⟨a5, z0, z1, z2, rfl, h5, w0, w1, w2⟩ := h1.three
            obtain ⟨a6, us6, rfl, h6, w6⟩ := w2.of_tup
            have l6 := w6.len
            have cun : (PyData.tuple un).canLay0 = true := canLay_mem cd (by simp)
            refine iteF ⟨_, rfl, a5, _, 2, _, rfl, rfl, sqT (g4 _ _ h5), atI_nat (j := 2) rfl, a6, _, rfl, .inr (sqT (g4 _ _ h6)), _, 8, rfl, _, rfl, by omega, by omega, by omega, by omega, ?_⟩
            have eN : (min ((us6.length : Nat) : Int) 8 - 0).toNat = min un.length 8 := by omega
            rw [eN]
            refine for_it walk_rangeC (fun i σ H' => ∃ y6 zs, σ = [some u, some v, some (.ref l), some (.int ((8 - m : Nat) : Int)), some x0, some (.ref a5), y6] ∧ Same (del H2 l) (del H' l) ∧ H' l = some (.lst zs) ∧
                AtAll (del H' l) zs ((((kidsP p 0 (un.take 8)).drop (min un.length 8 - i)) ++ r).map itemP).reverse)
              ⟨y6, ys, ?_, sG, l4, ?_⟩ (fun i σ H' _ h => trivial) ?_ ?_
            · rw [show ((8 - m : Nat) : Int) = ((8 - (m + 1) : Nat) : Int) + 1 by omega]
              rfl
            · rw [List.drop_of_length_le (by rw [kidsP_len, List.length_take]; omega)]
              exact hys.mono sG
            · rintro i x σ H5 H6 hi ⟨y6, zs, rfl, e6, l5, hz⟩ ⟨rfl, rfl⟩
              have g6 : Same (del H2 l) H6 := e6.trans same_del
              have ei : (0 + ((min un.length 8 : Nat) : Int) - 1 + (i : Nat) * (-1)) = ((min un.length 8 - 1 - i : Nat) : Int) := by omega
              have cd : un[min un.length 8 - 1 - i]? = some (un[min un.length 8 - 1 - i]'(by omega)) := List.getElem?_eq_getElem (by omega)
              obtain ⟨z, ez, hz'⟩ := w6.get cd
              dsimp only
              rw [ei]
              obtain ⟨p0, rfl, hp0⟩ := h0.of_row
              refine ⟨_, rfl, .inl ⟨rfl, _, sqL l5⟩, _, rfl, _, rfl, small_ (by simp), fun t7 ht7 => ?_⟩
              have n7 := same_new (o := .tup [.int 2, .int ((min un.length 8 - 1 - i : Nat) : Int)]) ht7
              refine cat_row (h0.mono (g6.trans n7)) (At.row (l := [2, ((min un.length 8 - 1 - i : Nat) : Int)]) upd_same) (by have := cp; simp at this ⊢; omega) fun vp H7 e7 ap => ?_
              refine ⟨_, rfl, a5, _, 2, _, rfl, rfl, sqT ((g6.trans (n7.trans e7)) _ _ h5), atI_nat (j := 2) rfl, _, rfl, a6, us6, _, z, rfl, rfl, sqT ((g6.trans (n7.trans e7)) _ _ h6), atI_nat ez, small_ (by simp), fun t8 ht8 => ?_⟩
              have n8 := same_new (o := .tup [vp, z]) ht8
              have l8 := (n7.trans (e7.trans n8)) _ _ l5
              have eD : Same (del H6 l) (del (upd H7 t8 (.tup [vp, z])) l) := same_del2 (n7.trans (e7.trans n8))
              refine ⟨l, _, _, rfl, rfl, l8, ?_, _, zs ++ [.ref t8], rfl, ?_, upd_same, ?_⟩
              · have := hz.len
                simp only [List.length_reverse, List.length_map, List.length_append, List.length_drop, kidsP_len, List.length_take] at this
                simp only [List.length_cons] at hlen
                exact small' (by omega)
              · rw [del_upd]
                exact e6.trans eD
              · have et : (un.take 8)[min un.length 8 - 1 - i]? = some (un[min un.length 8 - 1 - i]'(by omega)) := by
                  rw [List.getElem?_take, if_pos (by omega), cd]
                rw [del_upd, show min un.length 8 - (i + 1) = min un.length 8 - 1 - i by omega, kidsP_step et, show min un.length 8 - 1 - i + 1 = min un.length 8 - i by omega, List.cons_append, List.map_cons, List.reverse_cons]
                have l9 : H7 l = some (.lst zs) := (n7.trans e7) _ _ l5
                refine (hz.mono eD).app (AtAll.one ?_)
                refine .tup (xs := [vp, z]) ?_ (.cons ((ap.mono n8).del_row l8) (.cons (hz'.mono (e6.trans eD)) .nil))
                rw [del_ne (fun z => by rw [z, l9] at ht8; cases ht8), upd_same]
            · rintro σ H5 ⟨y6, zs, rfl, e6, l5, hz⟩
              rw [show min un.length 8 - min un.length 8 = 0 by omega, List.drop_zero] at hz
              refine ⟨m, by omega, _, _, _, kidsP p 0 (un.take 8) ++ r, zs, rfl, by omega, e2.trans e6, l5, hz, hL, ?_, fun q hq => ?_⟩
              · simp only [List.length_append, kidsP_len, List.length_take, List.length_cons] at hlen ⊢
                omega
              · rcases List.mem_append.mp hq with hq | hq
                · refine ⟨canLay_mem cun (List.mem_of_mem_take (kidsP_mem hq)), ?_⟩
                  rw [kidsP_path hq]
                  have := cp
                  simp only at this
                  omega
                · have := hcl q (List.mem_cons_of_mem _ hq)
                  exact ⟨this.1, by have := this.2; omega⟩
end
end K26
set_option Elab.async false
set_option linter.all false
set_option maxRecDepth 100000
set_option maxHeartbeats 4000000
namespace K26
open PySem PySem.Spec PyProof.Rows L2 RZ RT
/-! ## data without lists -/
mutual
def noL : PyData → Bool
  | .none | .bool _ | .int _ | .str _ => true
  | .tuple ds => noLs ds
  | .list _ | .dict _ => false
def noLs : List PyData → Bool
  | [] => true
  | d :: ds => noL d && noLs ds
end
/-- not a tuple -/
def NT (H : Hp) (l : Addr) : Prop := ∀ xs, H l ≠ some (.tup xs)
mutual
theorem At.mut {H : Hp} {l : Addr} {o : HO} (hl : NT H l) : ∀ {v : V} {d : PyData}, At H v d → noL d = true → At (upd H l o) v d
  | _, _, .non, _ => .non
  | _, _, .bl b, _ => .bl b
  | _, _, .int i, _ => .int i
  | _, _, .str x, _ => .str x
  | _, _, .lst _ _, h => by simp [noL] at h
  | _, _, .tup (a := a) (xs := xs) e k, h => by
    rw [noL] at h
    refine .tup ?_ (AtAll.mut hl k h)
    rw [upd_ne (fun z => hl xs (by rw [← z]; exact e))]
    exact e
theorem AtAll.mut {H : Hp} {l : Addr} {o : HO} (hl : NT H l) : ∀ {vs : List V} {ds : List PyData}, AtAll H vs ds → noLs ds = true → AtAll (upd H l o) vs ds
  | _, _, .nil, _ => .nil
  | _, _, .cons h k, e => by
    rw [noLs, Bool.and_eq_true] at e
    exact .cons (At.mut hl h e.1) (AtAll.mut hl k e.2)
end
theorem nt_lst {H : Hp} {l : Addr} {xs : List V} (h : H l = some (.lst xs)) : NT H l := fun ys z => by rw [h] at z; cases z
theorem noLs_all {ds : List PyData} (h : ∀ d ∈ ds, noL d = true) : noLs ds = true := by
  induction ds with
  | nil => rfl
  | cons d ds ih => rw [noLs, h d List.mem_cons_self, ih fun x hx => h x (List.mem_cons_of_mem _ hx)]; rfl
theorem noLs_app : ∀ {ds es : List PyData}, noLs ds = true → noLs es = true → noLs (ds ++ es) = true
  | [], _, _, h => h
  | d :: ds, _, h, k => by
    rw [noLs, Bool.and_eq_true] at h
    rw [List.cons_append, noLs, h.1, noLs_app h.2 k]
    rfl
theorem noL_dR (l : List Int) : noL (dR l) = true := by
  unfold dR
  rw [noL]
  refine noLs_all fun d hd => ?_
  obtain ⟨i, _, rfl⟩ := List.mem_map.mp hd
  rfl
/-! ## trees as data -/
mutual
def trD : Tr → PyData
  | .nd s a un => .tuple [dR s, dR a, .tuple (trDs un)]
def trDs : List Tr → List PyData
  | [] => []
  | c :: cs => trD c :: trDs cs
end
mutual
theorem noL_trD : ∀ t : Tr, noL (trD t) = true
  | .nd s a un => by simp [trD, noL, noLs, noL_dR, noL_trDs un]
theorem noL_trDs : ∀ ts : List Tr, noLs (trDs ts) = true
  | [] => rfl
  | c :: cs => by simp [trDs, noLs, noL_trD c, noL_trDs cs]
end
mutual
theorem canLay_trD : ∀ t : Tr, (trD t).canLay0 = true
  | .nd s a un => by simp [trD, PyData.canLay0, PyData.canLayAll0, canLay_dR, canLay_trDs un]
theorem canLay_trDs : ∀ ts : List Tr, PyData.canLayAll0 (trDs ts) = true
  | [] => by simp [trDs, PyData.canLayAll0]
  | c :: cs => by simp [trDs, PyData.canLayAll0, canLay_trD c, canLay_trDs cs]
end
theorem trDs_map : ∀ ts : List Tr, trDs ts = ts.map trD
  | [] => rfl
  | c :: cs => by rw [trDs, trDs_map cs]; rfl
mutual
/-- the yards of a tree with their paths -/
def ysT : Tr → List Int → List (List Int × Tr)
  | .nd s a un, p => (p, .nd s a un) :: yss un p 0
def yss : List Tr → List Int → Nat → List (List Int × Tr)
  | [], _, _ => []
  | c :: cs, p, i => ysT c (p ++ [2, (i : Int)]) ++ yss cs p (i + 1)
end
def kidsT (p : List Int) : Nat → List Tr → List (List Int × Tr)
  | _, [] => []
  | i, d :: ds => (p ++ [2, (i : Int)], d) :: kidsT p (i + 1) ds
def itemT (q : List Int × Tr) : PyData := .tuple [dR q.1, trD q.2]
def flatT (r : List (List Int × Tr)) : List (List Int × Tr) := r.flatMap fun q => ysT q.2 q.1
theorem kidsT_flat {p : List Int} : ∀ {i : Nat} {ds : List Tr}, flatT (kidsT p i ds) = yss ds p i
  | _, [] => rfl
  | i, d :: ds => by
    have ih := kidsT_flat (p := p) (i := i + 1) (ds := ds)
    unfold flatT at ih
    simp only [flatT, kidsT, List.flatMap_cons, yss, ih]
theorem flatT_app {a b : List (List Int × Tr)} : flatT (a ++ b) = flatT a ++ flatT b := by simp [flatT]
theorem ysT_pos : ∀ {t : Tr} {p : List Int}, 1 ≤ (ysT t p).length
  | .nd s a un, p => by simp [ysT]
theorem flatT_len : ∀ {r : List (List Int × Tr)}, r.length ≤ (flatT r).length
  | [] => by simp
  | q :: r => by
    have h1 := flatT_len (r := r)
    have h2 := ysT_pos (t := q.2) (p := q.1)
    simp only [flatT, List.flatMap_cons, List.length_append, List.length_cons] at h1 ⊢
    omega
theorem kidsT_len {p : List Int} : ∀ {i : Nat} {ds : List Tr}, (kidsT p i ds).length = ds.length
  | _, [] => rfl
  | i, d :: ds => by simp [kidsT, kidsT_len]
theorem kidsT_drop {p : List Int} : ∀ {j i : Nat} {ds : List Tr}, (kidsT p i ds).drop j = kidsT p (i + j) (ds.drop j)
  | 0, _, _ => rfl
  | j + 1, _, [] => by simp [kidsT]
  | j + 1, i, d :: ds => by
    simp only [kidsT, List.drop_succ_cons]
    rw [kidsT_drop, show i + 1 + j = i + (j + 1) by omega]
theorem kidsT_step {p : List Int} {j : Nat} {ds : List Tr} {d : Tr} (h : ds[j]? = some d) : (kidsT p 0 ds).drop j = (p ++ [2, (j : Int)], d) :: (kidsT p 0 ds).drop (j + 1) := by
  obtain ⟨h1, e1⟩ := List.getElem?_eq_some_iff.mp h
  rw [kidsT_drop, kidsT_drop, List.drop_eq_getElem_cons h1, e1]
  simp only [kidsT, Nat.zero_add]
theorem kidsT_path {p : List Int} : ∀ {i : Nat} {ds : List Tr} {q : List Int × Tr}, q ∈ kidsT p i ds → q.1.length = p.length + 2
  | _, [], _, h => by cases h
  | i, d :: ds, q, h => by
    rcases List.mem_cons.mp h with rfl | h
    · simp
    · exact kidsT_path h
theorem noL_items (r : List (List Int × Tr)) : noLs (r.map itemT) = true := noLs_all fun d hd => by
  obtain ⟨q, _, rfl⟩ := List.mem_map.mp hd
  simp [itemT, noL, noLs, noL_dR, noL_trD]
theorem canLay_items (r : List (List Int × Tr)) : ∀ d ∈ r.map itemT, d.canLay0 = true := fun d hd => by
  obtain ⟨q, _, rfl⟩ := List.mem_map.mp hd
  simp [itemT, PyData.canLay0, PyData.canLayAll0, canLay_dR, canLay_trD]
theorem At.tr {H : Hp} {v : V} {s a : List Int} {un : List Tr} (h : At H v (trD (.nd s a un))) : ∃ p vs va p3 ks, v = .ref p ∧ H p = some (.tup [vs, va, .ref p3]) ∧ At H vs (dR s) ∧ At H va (dR a) ∧ H p3 = some (.tup ks) ∧ AtAll H ks (trDs un) := by
  rw [trD] at h
  obtain ⟨p, x, y, z, rfl, h1, h2, h3, h4⟩ := h.three
  obtain ⟨p3, ks, rfl, h5, h6⟩ := h4.of_tup
  exact ⟨p, x, y, p3, ks, rfl, h1, h2, h3, h5, h6⟩
def spYards : Sp := fun vs H Q _ => ∃ (v : V) (t : Tr), vs = [v] ∧ At H v (trD t) ∧ (ysT t []).length ≤ 1000 ∧ RetL H Q ((ysT t []).map itemT)
section
variable {P : Program} {w : World} {K : PySem.W.Frag} {mg : Str → Option Value} {base : Heap} {f : Addr} {fd : FuncData} {A : XA}
theorem sc_yards_of : FnScope ["tree", "found", "line", "path", "here", "index"] ["tree"] (defScope (top 32)) := ⟨rfl, rfl, rfl, by decide +kernel, rfl, by decide +kernel, by decide +kernel⟩
theorem ok_yards_of (B : Bi mg) (F : FnP K "yards_of" (top 32) f fd) : FnOk P w K mg base CX0 1 f fd ["tree"] spYards := by
  refine ok0 F sc_yards_of (fun vs H Q E h => by obtain ⟨_, _, rfl, _⟩ := h; rfl) (fun cdv A' outer s H vs Q E hr h => ?_)
  obtain ⟨v, t, rfl, hv, hz, k⟩ := h
  refine ⟨(tSeq (tAsg (tLst tNil) (gName 1))
  (tSeq (tAsg (tLst (tCons (tTup (tCons (tTup tNil) (tCons (tVar 0) tNil))) tNil)) (gName 2))
  (tSeq (tWhile (tTest (tOp rNeNil (tVar 2) (tLst tNil))) (tSeq (tAsg (tBM0 K "list" rPop (tVar 2)) (gTup K 2 (gCons (gName 3) (gCons (gName 4) gNil))))
  (tSeq (tDrop (tBM K "list" rAppend (tVar 1) (tCons (tTup (tCons (tVar 3) (tCons (tVar 4) tNil))) tNil)))
  (tFor (iRevR (tRg1 (tCB (rLenQ K) (tCons (tOp (rIxT K) (tVar 4) (tC (.int 2))) tNil)))) (gName 5) (tDrop (tBM K "list" rAppend (tVar 2) (tCons (tTup (tCons (tOp (rCatA K) (tVar 3) (tTup (tCons (tC (.int 2)) (tCons (tVar 5) tNil)))) (tCons (tOp (rIxT K) (tOp (rIxT K) (tVar 4) (tC (.int 2))) (tVar 5)) tNil))) tNil)))))))
  (tRet (tVar 1))))),
    (pss_cons (ps_set (i := 1) sc_yards_of.nd rfl (by first | exact Or.inl rfl | exact Or.inr rfl) (pe_lst pa_nil))
  (pss_cons (ps_set (i := 2) sc_yards_of.nd rfl (by first | exact Or.inl rfl | exact Or.inr rfl) (pe_lst (pa_cons (pe_tup (pa_cons (pe_tup pa_nil) (pa_cons (pv 0) pa_nil))) pa_nil)))
  (pss_cons (ps_while PassesOwn.never (pt_cmpR (op_neNil hr.units) (pv 2) (pe_lst pa_nil) (nomark _))
  (pss_cons (ps_asg (pe_bm0 PySem.F.plainAttrs_list PySem.F.slot_list_pop PySem.F.type_list_pop mt_pop (pv 2)) (pg_tup rfl (pgs_cons (pg_name (i := 3) sc_yards_of.nd rfl (by first | exact Or.inl rfl | exact Or.inr rfl)) (pgs_cons (pg_name (i := 4) sc_yards_of.nd rfl (by first | exact Or.inl rfl | exact Or.inr rfl)) pgs_nil))))
  (pss_cons (ps_expr (pe_bm PySem.F.plainAttrs_list PySem.F.slot_list_append PySem.F.type_list_append mt_append (pv 1) (pa_cons (pe_tup (pa_cons (pv 3) (pa_cons (pv 4) pa_nil))) pa_nil)))
  (pss_one (ps_for PassesOwn.never rfl (pi_revR (by rfl) B.reversed (prg_1 (by rfl) B.range (pe_callB call_lenQ (by rfl) B.len (by decide +kernel) (pa_cons (pe_ix ix_tup (pv 4) pe_int (fun _ _ => rfl)) pa_nil)))) (pg_name (i := 5) sc_yards_of.nd rfl (by first | exact Or.inl rfl | exact Or.inr rfl))
  (pss_one (ps_expr (pe_bm PySem.F.plainAttrs_list PySem.F.slot_list_append PySem.F.type_list_append mt_append (pv 2) (pa_cons (pe_tup (pa_cons (pe_op op_catA (pv 3) (pe_tup (pa_cons pe_int (pa_cons (pv 5) pa_nil)))) (pa_cons (pe_ix ix_tup (pe_ix ix_tup (pv 4) pe_int (fun _ _ => rfl)) (pv 5) (fun _ _ => rfl)) pa_nil))) pa_nil)))))))))
  (pss_one (ps_ret (pv 1)))))), ?_⟩
  refine ⟨small_ (by simp), fun lf hf => ⟨small_ (by simp), fun t1 ht1 => ⟨_, rfl, small_ (by simp), fun t2 ht2 => ⟨small_ (by simp), fun l hl => ?_⟩⟩⟩⟩
  have n0 : Same H (upd H lf (.lst [])) := same_new hf
  have n1 := same_new (o := .tup []) ht1
  have n2 := same_new (o := .tup [.ref t1, v]) ht2
  have n3 := same_new (o := .lst [.ref t2]) hl
  have e3 := n0.trans (n1.trans n2)
  have hlH : H l = none := by
    cases hz : H l with
    | none => rfl
    | some o => have := e3 _ _ hz; rw [hl] at this; cases this
  have nlf : lf ≠ l := ne_of_none ((n1.trans n2) _ _ upd_same) hl
  refine ⟨fun m σ H' => ∃ y3 y4 y5 acc r xs zs, σ = [some v, some (.ref lf), some (.ref l), y3, y4, y5] ∧ Same H H' ∧ H' lf = some (.lst zs) ∧ H' l = some (.lst xs) ∧ AtAll H' zs (acc.map itemT) ∧ AtAll H' xs (r.map itemT).reverse ∧ acc ++ flatT r = ysT t [] ∧ m = (flatT r).length ∧ ∀ q ∈ r, q.1.length ≤ 2 * acc.length,
    ⟨_, none, none, none, [], [([], t)], [.ref t2], [], rfl, e3.trans n3, (n1.trans (n2.trans n3)) _ _ upd_same, upd_same, .nil, ?_, by simp [flatT], rfl, by simp⟩, ?_⟩
  · exact .cons (.tup (n3 _ _ upd_same) (.cons ((At.tup (xs := []) (ds := []) upd_same .nil).mono (n2.trans n3)) (.cons (hv.mono (e3.trans n3)) .nil))) .nil
  rintro m σ H2 ⟨y3, y4, y5, acc, r, xs, zs, rfl, e2, hlf, hl2, hacc, hx, hL, rfl, hp⟩
  have hlen : acc.length + (flatT r).length = (ysT t []).length := by rw [← hL, List.length_append]
  refine ⟨_, rfl, ?_⟩
  refine ⟨small_ (by simp), fun t3 ht3 => ?_⟩
  have n4 := same_new (o := .lst []) ht3
  have hl3 := n4 _ _ hl2
  have hlf3 := n4 _ _ hlf
  refine ⟨l, t3, xs, _, rfl, rfl, hl3, upd_same, hx.mono n4, ?_, _, rfl, ?_⟩
  · rw [PyData.canLay0]
    exact canLay_all fun d hd => canLay_items r d (List.mem_reverse.mp hd)
  cases r with
  | nil =>
    refine iteF ⟨_, rfl, ?_⟩
    have ea : acc = ysT t [] := by simpa [flatT] using hL
    rw [← ea] at k
    exact k lf zs _ (e2.trans n4) hf (n4 _ _ hlf) (hacc.mono n4)
  | cons q r =>
    have e0 : (!((q :: r).map itemT).reverse.isEmpty) = true := by simp
    rw [e0]
    refine iteT ⟨fun σ' H' => ∃ m', m' < (flatT (q :: r)).length ∧ _, fun _ _ h => h, ?_⟩
    obtain ⟨p, s, a, un⟩ := q
    have hx' : AtAll H2 xs ((r.map itemT).reverse ++ [itemT (p, .nd s a un)]) := by simpa using hx
    obtain ⟨ys, y, rfl, hys, hy⟩ := hx'.snoc
    have cp := hp (p, .nd s a un) List.mem_cons_self
    simp only at cp
    have eL : flatT ((p, .nd s a un) :: r) = (p, .nd s a un) :: flatT (kidsT p 0 un ++ r) := by
      rw [flatT_app, kidsT_flat]
      simp [flatT, ysT]
    rw [eL] at hL hlen
    rw [List.length_cons] at hlen
    have hkl : un.length + r.length ≤ (flatT (kidsT p 0 un ++ r)).length := by
      have := flatT_len (r := kidsT p 0 un ++ r)
      rwa [List.length_append, kidsT_len] at this
    -- path, here = line.pop()
    refine ⟨_, rfl, .inl ⟨rfl, _, sqL hl3⟩, l, _, _, rfl, rfl, hl3, last_snoc, ?_⟩
    rw [List.dropLast_concat]
    have h4ys : AtAll (upd (upd H2 t3 (.lst [])) l (.lst ys)) ys (r.map itemT).reverse := (hys.mono n4).mut (nt_lst hl3) (by rw [← List.map_reverse]; exact noL_items _)
    have h4y : At (upd (upd H2 t3 (.lst [])) l (.lst ys)) y (itemT (p, .nd s a un)) := (hy.mono n4).mut (nt_lst hl3) (by simp [itemT, noL, noLs, noL_dR, noL_trD])
    have h4acc : AtAll (upd (upd H2 t3 (.lst [])) l (.lst ys)) zs (acc.map itemT) := (hacc.mono n4).mut (nt_lst hl3) (noL_items _)
    have h4lf : (upd (upd H2 t3 (.lst [])) l (.lst ys)) lf = some (.lst zs) := by rw [upd_ne nlf]; exact hlf3
    have h4l : (upd (upd H2 t3 (.lst [])) l (.lst ys)) l = some (.lst ys) := upd_same
    have e4 : Same H (upd (upd H2 t3 (.lst [])) l (.lst ys)) := same_mut (e2.trans n4) hlH
    generalize upd (upd H2 t3 (.lst [])) l (.lst ys) = H4 at h4ys h4y h4acc h4lf h4l e4 ⊢
    obtain ⟨T, x0, x1, rfl, hT, h0, h1⟩ := h4y.two
    refine ⟨T, _, rfl, sqT hT, rfl, _, _, rfl, _, _, rfl, rfl, ?_⟩
    -- found.append((path, here))
    refine ⟨_, rfl, .inl ⟨rfl, _, sqL h4lf⟩, _, rfl, _, rfl, small_ (by simp), fun t5 ht5 => ?_⟩
    have n5 := same_new (o := .tup [x0, x1]) ht5
    refine ⟨lf, zs, _, rfl, rfl, n5 _ _ h4lf, ?_, ?_⟩
    · have := hacc.len
      rw [List.length_map] at this
      exact small' (by omega)
    have lf5 := n5 _ _ h4lf
    have h6acc : AtAll (upd (upd H4 t5 (.tup [x0, x1])) lf (.lst (zs ++ [.ref t5]))) (zs ++ [.ref t5]) ((acc ++ [(p, Tr.nd s a un)]).map itemT) := by
      rw [List.map_append]
      refine AtAll.app ((h4acc.mono n5).mut (nt_lst lf5) (noL_items _)) (AtAll.one (At.mut (nt_lst lf5) ?_ (by simp [itemT, noL, noLs, noL_dR, noL_trD])))
      exact .tup upd_same (.cons (h0.mono n5) (.cons (h1.mono n5) .nil))
    have h6ys : AtAll (upd (upd H4 t5 (.tup [x0, x1])) lf (.lst (zs ++ [.ref t5]))) ys (r.map itemT).reverse := (h4ys.mono n5).mut (nt_lst lf5) (by rw [← List.map_reverse]; exact noL_items _)
    have h6l : (upd (upd H4 t5 (.tup [x0, x1])) lf (.lst (zs ++ [.ref t5]))) l = some (.lst ys) := by rw [upd_ne (Ne.symm nlf)]; exact n5 _ _ h4l
    have h6lf : (upd (upd H4 t5 (.tup [x0, x1])) lf (.lst (zs ++ [.ref t5]))) lf = some (.lst (zs ++ [.ref t5])) := upd_same
    have h60 : At (upd (upd H4 t5 (.tup [x0, x1])) lf (.lst (zs ++ [.ref t5]))) x0 (dR p) := (h0.mono n5).mut (nt_lst lf5) (noL_dR _)
    have h61 : At (upd (upd H4 t5 (.tup [x0, x1])) lf (.lst (zs ++ [.ref t5]))) x1 (trD (.nd s a un)) := (h1.mono n5).mut (nt_lst lf5) (noL_trD _)
    have e6 : Same H (upd (upd H4 t5 (.tup [x0, x1])) lf (.lst (zs ++ [.ref t5]))) := same_mut (e4.trans n5) hf
    generalize upd (upd H4 t5 (.tup [x0, x1])) lf (.lst (zs ++ [.ref t5])) = H6 at h6acc h6ys h6l h6lf h60 h61 e6 ⊢
    generalize hzs : zs ++ [.ref t5] = zs6 at h6acc h6lf
    -- the loop
    obtain ⟨a5, _, _, a6, us6, rfl, h5, w0, w1, h6, w6⟩ := h61.tr
    have l6 := w6.len
    rw [trDs_map, List.length_map] at l6
    refine ⟨_, rfl, a5, _, 2, _, rfl, rfl, sqT h5, atI_nat (j := 2) rfl, a6, _, rfl, .inr (sqT h6), _, rfl, by omega, by omega, by omega, by omega, ?_⟩
    have eN : (((us6.length : Nat) : Int) - 0).toNat = un.length := by omega
    rw [eN]
    refine for_it walk_rangeC (fun i σ H' => ∃ y5 ws, σ = [some v, some (.ref lf), some (.ref l), some x0, some (.ref a5), y5] ∧ Same H H' ∧ H' lf = some (.lst zs6) ∧ H' l = some (.lst ws) ∧ AtAll H' zs6 ((acc ++ [(p, Tr.nd s a un)]).map itemT) ∧
        At H' x0 (dR p) ∧ At H' (.ref a5) (trD (.nd s a un)) ∧ AtAll H' ws ((((kidsT p 0 un).drop (un.length - i)) ++ r).map itemT).reverse)
      ⟨y5, ys, rfl, e6, h6lf, h6l, h6acc, h60, h61, ?_⟩ (fun i σ H' _ h => trivial) ?_ ?_
    · rw [List.drop_of_length_le (by rw [kidsT_len]; omega)]
      exact h6ys
    · rintro i x σ H7 H8 hi ⟨y5, ws, rfl, e7, h7lf, h7l, h7acc, h70, h71, h7ws⟩ ⟨rfl, rfl⟩
      have ei : (0 + ((un.length : Nat) : Int) - 1 + (i : Nat) * (-1)) = ((un.length - 1 - i : Nat) : Int) := by omega
      have cd : un[un.length - 1 - i]? = some (un[un.length - 1 - i]'(by omega)) := List.getElem?_eq_getElem (by omega)
      obtain ⟨a5', _, _, a6, us6, z, h5, w0, w1, h6, w6⟩ := h71.tr
      cases z
      have cd' : (trDs un)[un.length - 1 - i]? = some (trD (un[un.length - 1 - i]'(by omega))) := by rw [trDs_map, List.getElem?_map, cd]; rfl
      obtain ⟨z, ez, hz'⟩ := w6.get cd'
      dsimp only
      rw [ei]
      obtain ⟨p0, rfl, hp0⟩ := h70.of_row
      refine ⟨_, rfl, .inl ⟨rfl, _, sqL h7l⟩, _, rfl, _, rfl, small_ (by simp), fun t7 ht7 => ?_⟩
      have n7 := same_new (o := .tup [.int 2, .int ((un.length - 1 - i : Nat) : Int)]) ht7
      refine cat_row (h70.mono n7) (At.row (l := [2, ((un.length - 1 - i : Nat) : Int)]) upd_same) (by simp; omega) fun vp H9 e9 ap => ?_
      have n9 := n7.trans e9
      refine ⟨_, rfl, a5, _, 2, _, rfl, rfl, sqT (n9 _ _ h5), atI_nat (j := 2) rfl, _, rfl, a6, us6, _, z, rfl, rfl, sqT (n9 _ _ h6), atI_nat ez, small_ (by simp), fun t8 ht8 => ?_⟩
      have n10 := n9.trans (same_new (o := .tup [vp, z]) ht8)
      have l8 := n10 _ _ h7l
      refine ⟨l, _, _, rfl, rfl, l8, ?_, _, ws ++ [.ref t8], rfl, same_mut (e7.trans n10) hlH, ?_, upd_same, (h7acc.mono n10).mut (nt_lst l8) (noL_items _), (h70.mono n10).mut (nt_lst l8) (noL_dR _), (h71.mono n10).mut (nt_lst l8) (noL_trD _), ?_⟩
      · have := h7ws.len
        simp only [List.length_reverse, List.length_map, List.length_append, List.length_drop, kidsT_len] at this
        exact small' (by omega)
      · rw [upd_ne nlf]
        exact n10 _ _ h7lf
      · rw [show un.length - (i + 1) = un.length - 1 - i by omega, kidsT_step cd, show un.length - 1 - i + 1 = un.length - i by omega, List.cons_append, List.map_cons, List.reverse_cons]
        refine AtAll.app ((h7ws.mono n10).mut (nt_lst l8) (by rw [← List.map_reverse]; exact noL_items _)) (AtAll.one (At.mut (nt_lst l8) ?_ (by simp [itemT, noL, noLs, noL_dR, noL_trD])))
        exact .tup upd_same (.cons (ap.mono (same_new ht8)) (.cons (hz'.mono n10) .nil))
    · rintro σ H7 ⟨y5, ws, rfl, e7, h7lf, h7l, h7acc, h70, h71, h7ws⟩
      rw [Nat.sub_self, List.drop_zero] at h7ws
      refine ⟨(flatT (kidsT p 0 un ++ r)).length, by rw [eL]; simp, _, _, _, acc ++ [(p, .nd s a un)], kidsT p 0 un ++ r, ws, zs6, rfl, e7, h7lf, h7l, h7acc, h7ws, ?_, rfl, fun q hq => ?_⟩
      · rw [List.append_assoc]; exact hL
      · rw [List.length_append, List.length_singleton]
        rcases List.mem_append.mp hq with hq | hq
        · rw [kidsT_path hq]; omega
        · have := hp q (List.mem_cons_of_mem _ hq); omega
end
end K26
set_option Elab.async false
set_option linter.all false
set_option maxRecDepth 100000
set_option maxHeartbeats 4000000
namespace K26
open PySem PySem.Spec PyProof.Rows L2 RZ RT
/-! ## yard_with -/
def toI : PyData → Int
  | .int i => i
  | _ => 0
def pathP : PyData → Option (List Int)
  | .tuple ds => if ds.all natP then some (ds.map toI) else none
  | _ => none
theorem pathP_tup {ds : List PyData} : pathP (.tuple ds) = if ds.all natP then some (ds.map toI) else none := rfl
def yardAt (t : Tr) (d : PyData) : Option Tr := (pathP d).bind fun l => ((ysT t []).find? fun q => q.1 == l).map (·.2)
def yardWithP (t : Tr) (d : PyData) : Out := match yardAt t d with
  | some s => .ok (trD s)
  | none => .index d
theorem nat_ints : ∀ {ds : List PyData}, ds.all natP = true → (ds.map toI).map PyData.int = ds
  | [], _ => rfl
  | d :: ds, h => by
    rw [List.all_cons, Bool.and_eq_true] at h
    rw [List.map_cons, List.map_cons, nat_ints h.2]
    cases d with
    | int i => rfl
    | _ => cases h.1
theorem eqv_ints : ∀ {a b : List Int}, PyData.eqvAll (a.map PyData.int) (b.map PyData.int) = (a == b)
  | [], [] => by simp [PyData.eqvAll]
  | [], _ :: _ => by simp [PyData.eqvAll]
  | _ :: _, [] => by simp [PyData.eqvAll]
  | x :: a, y :: b => by
    rw [List.map_cons, List.map_cons, PyData.eqvAll, eqv_ints]
    simp [PyData.eqv]
theorem eqv_dR {a b : List Int} : PyData.eqv (dR a) (dR b) = (a == b) := by
  unfold dR
  rw [PyData.eqv, eqv_ints]
theorem shaped_dR (l : List Int) : SeqAt.shaped (dR l) = true := by
  unfold SeqAt.shaped
  rw [canLay_dR, Bool.true_and]
  unfold dR
  rw [PyData.depth, depth_ints]
  rfl
def spYardWith (A : XA) : Sp := fun vs H Q E => ∃ (v y : V) (t : Tr) (d : PyData), vs = [v, y] ∧ At H v (trD t) ∧ At H y d ∧ (ysT t []).length ≤ 1000 ∧ (∀ ds, d = .tuple ds → ds.length ≤ 1000) ∧ Go A H Q E (yardWithP t d)
section
variable {P : Program} {w : World} {K : PySem.W.Frag} {mg : Str → Option Value} {base : Heap} {f : Addr} {fd : FuncData} {A : XA}
theorem sc_yard_with : FnScope ["tree", "path", "place", "here", "item"] ["tree", "path"] (defScope (top 33)) := ⟨rfl, rfl, rfl, by decide +kernel, rfl, by decide +kernel, by decide +kernel⟩
theorem ok_yard_with (B : Bi mg) (X_BadIndex : Xc P w K mg base "BadIndex" A.bi "value") (C_is_natural : Cal P w K mg base CX0 1 "is_natural" ["value"] spNat) (C_yards_of : Cal P w K mg base CX0 1 "yards_of" ["tree"] spYards) (F : FnP K "yard_with" (top 33) f fd) :
    FnOk P w K mg base (L2.CX P w) 3 f fd ["tree", "path"] (spYardWith A) := by
  refine okX F sc_yard_with (fun vs H Q E h => by obtain ⟨_, _, _, _, rfl, _⟩ := h; rfl) (fun cdv A' outer s H vs Q E hr h => ?_)
  obtain ⟨v, y, t, d, rfl, hv, hy, hz, hdz, k⟩ := h
  refine ⟨(tSeq (tIfS (tAnd (tB (tCB (rIsi K) (tCons (tVar 1) (tCons (tC (.ty "tuple")) tNil)))) (tTest (tOp rEq (tCB (rLenQ K) (tCons (tLc (iTup K (tVar 1)) (gName 4) (tNot (tB (tCall spNat [] E0 (tCons (tVar 4) tNil)))) (tVar 4) [4]) tNil)) (tC (.int 0))))) (tFor (iList K (tCall spYards [] E0 (tCons (tVar 0) tNil))) (gTup K 2 (gCons (gName 2) (gCons (gName 3) gNil))) (tIfS (tTest (tOp (rEqD K) (tVar 2) (tVar 1))) (tRet (tVar 3)) tNext)) tNext)
  (tRs A.bi "value" (fun c d _ H => E c d H) (tCons (tVar 1) tNil))),
    (pss_cons (ps_if (PW.pt (pw_and (pt_val (pe_callB call_isi (by rfl) B.isinstance (by decide +kernel) (pa_cons (pv 1) (pa_cons (pe_bty B.tuple rfl (by decide +kernel)) pa_nil)))) (pw_and1 (pt_cmpR op_eq (pe_callB call_lenQ (by rfl) B.len (by decide +kernel) (pa_cons (pe_lc (own := [("item", 4)]) (g := (gName 4)) (tt := (tNot (tB (tCall spNat [] E0 (tCons (tVar 4) tNil))))) (te := (tVar 4)) rfl sc_yard_with.nd (pi_tup (pv 1)) (blkOk_by (N := ["tree", "path", "place", "here", "item"]) (sc := defScope (top 33)) (by decide +kernel)) (fun _ _ _ _ _ => (pg_name (i := 4) sc_yard_with.nd rfl (by first | exact Or.inl rfl | exact Or.inr rfl))) (fun _ _ _ _ _ => (pts_one (pt_not (pt_val (pe_cal C_is_natural hr (by first | decide | omega) (by rfl) pass0 (pa_cons (pv 4) pa_nil)))))) (fun _ _ _ _ _ => (pv 4))) pa_nil)) pe_int (nomark _)))))
  (pss_one (ps_for (passes_of rfl) rfl (pi_list (pe_cal C_yards_of hr (by first | decide | omega) (by rfl) pass0 (pa_cons (pv 0) pa_nil))) (pg_tup rfl (pgs_cons (pg_name (i := 2) sc_yard_with.nd rfl (by first | exact Or.inl rfl | exact Or.inr rfl)) (pgs_cons (pg_name (i := 3) sc_yard_with.nd rfl (by first | exact Or.inl rfl | exact Or.inr rfl)) pgs_nil)))
  (pss_one (ps_if (pt_cmpR (op_eqD hr.units) (pv 2) (pv 1) (nomark _))
  (pss_one (ps_ret (pv 3)))
  pss_nil))))
  pss_nil)
  (pss_one (ps_rs rfl (takes_of rfl rfl rfl rfl) X_BadIndex hr (by first | decide | omega) (by rfl) (pa_cons (pv 1) pa_nil)))), ?_⟩
  obtain ⟨t1, g1, g2⟩ := isi_tup (K := K) hy
  refine ⟨_, rfl, _, _, t1, _, _, rfl, .ty _, g1, g2, _, rfl, ?_⟩
  have bad : tupP d = false → yardWithP t d = .index d := fun h => by cases d <;> first | rfl | cases h
  cases hd : tupP d with
  | false =>
    rw [bad hd] at k
    exact iteF (iteF ⟨_, rfl, y, rfl, Rs.go k (Same.refl _) hy⟩)
  | true =>
    cases hy with
    | non => cases hd
    | bl => cases hd
    | int => cases hd
    | str => cases hd
    | lst => cases hd
    | @tup a xs ds hq hk =>
    have hl := hk.len
    have hl1 := hdz ds rfl
    refine iteT ⟨_, rfl, a, rfl, ⟨xs, sqT hq⟩, fun D hD => ?_⟩
    refine lc_it (walk_tup (xs := xs)) (fun n H' => ∃ acc, Same H H' ∧ H' D = some (.lst acc) ∧ acc.length = ((ds.take n).filter (fun x => !natP x)).length) ⟨[], same_mut (Same.refl H) hD, upd_same, rfl⟩ (fun n H' _ p => ?_) ?_ ?_
    · obtain ⟨_, e, _⟩ := p
      exact sqT (e _ _ hq)
    · rintro n x H1 H2 hn ⟨acc, e1, h1, h2⟩ hY
      obtain ⟨rfl, hx⟩ := hY
      obtain ⟨d1, ed1, a1⟩ := hk.getv hx
      have et : ds.take (n + 1) = ds.take n ++ [d1] := by rw [List.take_succ, ed1]; rfl
      have hf : (ds.take n).filter (fun x => !natP x) |>.length |> (· ≤ n) := Nat.le_trans (List.length_filter_le _ _) (by rw [List.length_take]; omega)
      refine ⟨rfl, _, rfl, x, d1, rfl, a1.mono e1, _, rfl, ?_⟩
      cases hb : natP d1 with
      | true =>
        refine iteF ⟨acc, e1, h1, ?_⟩
        rw [et, List.filter_append, h2]
        simp [hb]
      | false =>
        refine iteT ⟨_, rfl, acc, h1, small' (by omega), acc ++ [x], same_mut e1 hD, upd_same, ?_⟩
        rw [et, List.filter_append, List.length_append, List.length_append, h2]
        simp [hb]
    · rintro H1 ⟨acc, e1, h1, h2⟩
      refine ⟨D, acc, rfl, .inl (sqL h1), rfl, _, rfl, ?_⟩
      rw [hl, List.take_length] at h2
      cases hn : ds.all natP with
      | false =>
        have hne : acc.length ≠ 0 := by
          rw [h2]
          obtain ⟨x, hx, hx2⟩ := List.all_eq_false.mp hn
          intro z
          have := List.eq_nil_of_length_eq_zero z
          have hm : x ∈ ds.filter (fun x => !natP x) := List.mem_filter.mpr ⟨hx, by simpa using hx2⟩
          rw [this] at hm
          cases hm
        have hb : yardWithP t (.tuple ds) = .index (.tuple ds) := by
          unfold yardWithP yardAt
          rw [pathP_tup, hn]
          rfl
        rw [hb] at k
        rw [decide_eq_false (by intro z; injection z with z; omega)]
        exact iteF ⟨_, rfl, _, rfl, Rs.go k e1 (.tup (e1 _ _ hq) (hk.mono e1))⟩
      | true =>
        have h0 : acc.length = 0 := by
          rw [h2, List.filter_eq_nil_iff.mpr]
          · rfl
          · intro x hx
            rw [List.all_eq_true.mp hn x hx]
            exact Bool.false_ne_true
        rw [h0, decide_eq_true (show V.int ((0 : Nat) : Int) = V.int 0 from rfl)]
        obtain ⟨l, rfl⟩ : ∃ l : List Int, ds = l.map PyData.int := ⟨ds.map toI, (nat_ints hn).symm⟩
        have hp : pathP (.tuple (l.map PyData.int)) = some l := by
          rw [pathP_tup, hn, if_pos rfl, List.map_map]
          congr 1
          exact (List.map_congr_left (fun x _ => rfl)).trans (List.map_id _)
        have hb : yardWithP t (.tuple (l.map PyData.int)) = match ((ysT t []).find? fun q => q.1 == l).map (·.2) with
            | some s => .ok (trD s)
            | none => .index (.tuple (l.map PyData.int)) := by
          unfold yardWithP yardAt
          rw [hp]
          rfl
        rw [hb] at k
        refine iteT ⟨_, rfl, v, t, rfl, hv.mono e1, hz, fun p ws H2 e2 hpn hp2 hws => ?_⟩
        have e12 := e1.trans e2
        refine ⟨p, rfl, ⟨ws, sqL hp2⟩, ?_⟩
        refine for_it (walk_list (xs := ws)) (fun i σ H' => ∃ y2 y3, σ = [some v, some (.ref a), y2, y3, none] ∧ H' = H2 ∧ ((ysT t []).take i).find? (fun q => q.1 == l) = none) ⟨none, none, rfl, rfl, rfl⟩ (fun i σ H' _ h => ?_) ?_ ?_
        · obtain ⟨_, _, _, rfl, _⟩ := h
          exact sqL hp2
        · rintro i x σ H3 H4 hi ⟨y2, y3, rfl, rfl, hf⟩ hY
          obtain ⟨rfl, hx⟩ := hY
          obtain ⟨d1, ed, a1⟩ := hws.getv hx
          rw [List.getElem?_map] at ed
          obtain ⟨q, eq, rfl⟩ : ∃ q, (ysT t [])[i]? = some q ∧ itemT q = d1 := by
            cases hq : (ysT t [])[i]? with
            | none => rw [hq] at ed; cases ed
            | some q => rw [hq] at ed; exact ⟨q, rfl, Option.some.inj ed⟩
          obtain ⟨T, x0, x1, rfl, hT, h0, h1⟩ := a1.two
          have et : (ysT t []).take (i + 1) = (ysT t []).take i ++ [q] := by rw [List.take_succ, eq]; rfl
          refine ⟨T, _, rfl, sqT hT, rfl, _, _, rfl, _, _, rfl, rfl, ?_⟩
          refine ⟨_, rfl, _, rfl, _, dR l, h0.dp, (At.tup (e12 _ _ hq) (hk.mono e12)).dp, shaped_dR _, shaped_dR _, _, rfl, ?_⟩
          rw [eqv_dR]
          cases hql : q.1 == l with
          | false =>
            refine iteF ⟨_, _, rfl, rfl, ?_⟩
            rw [et, List.find?_append, hf]
            simp [hql]
          | true =>
            refine iteT ⟨_, rfl, ?_⟩
            have ef : (ysT t []).find? (fun q => q.1 == l) = some q := by
              rw [← List.take_append_drop (i + 1) (ysT t []), List.find?_append, et, List.find?_append, hf]
              simp [hql]
            rw [ef] at k
            exact Ret.go k e12 h1
        · rintro σ H3 ⟨y2, y3, rfl, rfl, hf⟩
          have hlw := hws.len
          rw [List.length_map] at hlw
          rw [hlw, List.take_length] at hf
          rw [hf] at k
          exact ⟨_, rfl, _, rfl, Rs.go k e12 (.tup (e12 _ _ hq) (hk.mono e12))⟩
end
end K26
set_option Elab.async false
set_option linter.all false
set_option maxRecDepth 100000
set_option maxHeartbeats 4000000
namespace K26
open PySem PySem.Spec PyProof.Rows L2 RZ RT
/-! ## asked_with -/
def kR (p : List Int) : List Key := p.map .inl
theorem kR_V (p : List Int) : (kR p).map kV = p.map V.int := by simp [kR, kV]
theorem kR_inj : ∀ {p q : List Int}, kR p = kR q → p = q
  | [], [], _ => rfl
  | [], _ :: _, h => by cases h
  | _ :: _, [], h => by cases h
  | a :: p, b :: q, h => by
    simp only [kR, List.map_cons, List.cons.injEq] at h
    obtain ⟨h1, h2⟩ := h
    rw [kR_inj h2]
    cases h1
    rfl
theorem asked_snoc {us : List Int} : ∀ {cs : List Tr} {acc : List Int} {c : Tr}, asked us acc (cs ++ [c]) = add (asked us acc cs) (need us c)
  | [], _, _ => by simp [asked]
  | d :: cs, acc, c => by
    simp only [List.cons_append, asked]
    exact asked_snoc
/-- what a table says of the needs of yards under a path -/
def Tabl (us : List Int) (H : Hp) (b : Addr) (p : List Int) (un : List Tr) : Prop := ∃ kvs, H b = some (.dT kvs) ∧ ∀ (i : Nat) (c : Tr), un[i]? = some c → ∃ w, valV kvs (kR (p ++ [2, (i : Int)])) = some w ∧ At H w (dR (need us c))
theorem Tabl.mono {us : List Int} {H H' : Hp} {b : Addr} {p : List Int} {un : List Tr} (h : Tabl us H b p un) (e : Same H H') : Tabl us H' b p un := by
  obtain ⟨kvs, h1, h2⟩ := h
  refine ⟨kvs, e _ _ h1, fun i c hc => ?_⟩
  obtain ⟨w, h3, h4⟩ := h2 i c hc
  exact ⟨w, h3, h4.mono e⟩
theorem goodAll_take {us : List Int} : ∀ {cs : List Tr} {n : Nat}, GoodAll us cs → GoodAll us (cs.take n)
  | [], _, h => by simpa using h
  | c :: cs, 0, _ => by simp [GoodAll]
  | c :: cs, n + 1, h => by
    simp only [GoodAll] at h
    simp only [List.take_succ_cons, GoodAll]
    exact ⟨h.1, goodAll_take h.2⟩
def spAsked : Sp := fun vs H Q _ => ∃ (x y : V) (b : Addr) (us s a : List Int) (un : List Tr) (p : List Int), vs = [x, y, .ref b] ∧ At H x (trD (.nd s a un)) ∧ At H y (dR p) ∧ Tabl us H b p un ∧ GoodAll us un ∧ Row us a ∧ us.length ≤ 3 ∧ p.length ≤ 1000 ∧ un.length ≤ 1000 ∧ Ret H Q (dR (asked us a un))
section
variable {P : Program} {w : World} {K : PySem.W.Frag} {mg : Str → Option Value} {base : Heap} {f : Addr} {fd : FuncData} {A : XA}
theorem sc_asked_with : FnScope ["here", "path", "table", "found", "index"] ["here", "path", "table"] (defScope (top 34)) := ⟨rfl, rfl, rfl, by decide +kernel, rfl, by decide +kernel, by decide +kernel⟩
theorem ok_asked_with (B : Bi mg) (C_added : Cal P w K mg base CX0 1 "added" ["one", "other"] spAdd) (F : FnP K "asked_with" (top 34) f fd) :
    FnOk P w K mg base CX0 2 f fd ["here", "path", "table"] spAsked := by
  refine ok0 F sc_asked_with (fun vs H Q E h => by obtain ⟨_, _, _, _, _, _, _, _, rfl, _⟩ := h; rfl) (fun cdv A' outer s0 H vs Q E hr h => ?_)
  obtain ⟨x, y, b, us, s, a, un, p, rfl, hx, hy, hT, hg, hra, hul, hpl, hunl, k⟩ := h
  refine ⟨(tSeq (tAsg (tOp (rIxT K) (tVar 0) (tC (.int 1))) (gName 3))
  (tSeq (tFor (iRng1 (tCons (tCB (rLenQ K) (tCons (tOp (rIxT K) (tVar 0) (tC (.int 2))) tNil)) tNil)) (gName 4) (tAsg (tCall spAdd [] E0 (tCons (tVar 3) (tCons (tDGet (tVar 2) (tOp (rCatA K) (tVar 1) (tTup (tCons (tC (.int 2)) (tCons (tVar 4) tNil))))) tNil))) (gName 3)))
  (tRet (tVar 3)))),
    (pss_cons (ps_set (i := 3) sc_asked_with.nd rfl (by first | exact Or.inl rfl | exact Or.inr rfl) (pe_ix ix_tup (pv 0) pe_int (fun _ _ => rfl)))
  (pss_cons (ps_for PassesOwn.never rfl (pi_range1 (by rfl) B.range (pa_cons (pe_callB call_lenQ (by rfl) B.len (by decide +kernel) (pa_cons (pe_ix ix_tup (pv 0) pe_int (fun _ _ => rfl)) pa_nil)) pa_nil)) (pg_name (i := 4) sc_asked_with.nd rfl (by first | exact Or.inl rfl | exact Or.inr rfl))
  (pss_one (ps_set (i := 3) sc_asked_with.nd rfl (by first | exact Or.inl rfl | exact Or.inr rfl) (pe_cal C_added hr (by first | decide | omega) (by rfl) pass0 (pa_cons (pv 3) (pa_cons (pe_dget (hu_of hr) (pv 2) (pe_op op_catA (pv 1) (pe_tup (pa_cons pe_int (pa_cons (pv 4) pa_nil)))) (fun _ _ => rfl)) pa_nil))))))
  (pss_one (ps_ret (pv 3))))), ?_⟩
  obtain ⟨a5, x0, x1, a6, ks, rfl, h5, w0, w1, h6, w6⟩ := hx.tr
  obtain ⟨p0, rfl, hp0⟩ := hy.of_row
  have l6 := w6.len
  rw [trDs_map, List.length_map] at l6
  refine ⟨_, rfl, a5, _, 1, _, rfl, rfl, sqT h5, atI_nat (j := 1) rfl, ?_⟩
  refine ⟨_, rfl, a5, _, 2, _, rfl, rfl, sqT h5, atI_nat (j := 2) rfl, a6, _, rfl, .inr (sqT h6), _, rfl, by omega, by omega, ?_⟩
  refine for_it walk_range (fun i σ H' => ∃ v y4, σ = [some (.ref a5), some (.ref p0), some (.ref b), some v, y4] ∧ Same H H' ∧ At H' v (dR (asked us a (un.take i)))) ⟨x1, none, rfl, Same.refl H, by simpa [asked] using w1⟩ (fun i σ H' _ h => trivial) ?_ ?_
  · rintro i z σ H1 H2 hi ⟨v, y4, rfl, e1, hv⟩ ⟨rfl, rfl⟩
    have hi' : i < un.length := by omega
    have cd : un[i]? = some (un[i]'hi') := List.getElem?_eq_getElem hi'
    have rn := (need_row (goodAll_get hg cd)).1
    have rt := asked_row (goodAll_take (n := i) hg) hra
    dsimp only
    rw [Int.zero_add]
    refine ⟨_, rfl, _, rfl, _, rfl, _, rfl, small_ (by simp), fun t1 ht1 => ?_⟩
    have n1 := same_new (o := .tup [.int 2, .int (i : Nat)]) ht1
    refine cat_row (hy.mono (e1.trans n1)) (At.row (l := [2, (i : Int)]) upd_same) (by simp; omega) fun vp H3 e3 ap => ?_
    have e13 := e1.trans (n1.trans e3)
    obtain ⟨kvs, hk1, hk2⟩ := hT.mono e13
    obtain ⟨u, hu1, hu2⟩ := hk2 i _ cd
    obtain ⟨vp, rfl, hvp⟩ := ap.of_row
    refine ⟨b, u, rfl, ?_, _, _, _, _, rfl, hv.mono (n1.trans e3), hu2, by rw [rt.1, rn.1], by rw [rt.1]; omega, fun v5 H5 e5 a5 => ?_⟩
    · rw [← hu1]
      exact DGet.t hk1 (by rw [kR_V]; exact hvp)
    · refine ⟨v5, _, rfl, e13.trans e5, ?_⟩
      have et : un.take (i + 1) = un.take i ++ [un[i]'hi'] := by rw [List.take_succ, cd]; rfl
      rw [et, asked_snoc]
      exact a5
  · rintro σ H1 ⟨v, y4, rfl, e1, hv⟩
    refine ⟨_, rfl, ?_⟩
    rw [List.take_of_length_le (by omega)] at hv
    exact k.go e1 hv
end
end K26
set_option Elab.async false
set_option linter.all false
set_option maxRecDepth 100000
set_option maxHeartbeats 4000000
namespace K26
open PySem PySem.Spec PyProof.Rows L2 RZ RT
/-! ## paths -/
def flat : List Nat → List Int
  | [] => []
  | i :: r => 2 :: (i : Int) :: flat r
def unflat : List Int → List Nat
  | _ :: i :: r => i.toNat :: unflat r
  | _ => []
theorem unflat_flat : ∀ r : List Nat, unflat (flat r) = r
  | [] => rfl
  | i :: r => by simp [flat, unflat, unflat_flat r]
theorem flat_inj {r q : List Nat} (h : flat r = flat q) : r = q := by rw [← unflat_flat r, h, unflat_flat]
theorem flat_app : ∀ r q : List Nat, flat (r ++ q) = flat r ++ flat q
  | [], _ => rfl
  | i :: r, q => by simp [flat, flat_app r q]
theorem flat_len : ∀ r : List Nat, (flat r).length = 2 * r.length
  | [] => rfl
  | i :: r => by simp [flat, flat_len r]; omega
mutual
theorem mem_ysT : ∀ (t : Tr) (p : List Int) (q : List Int × Tr), q ∈ ysT t p ↔ ∃ r, q.1 = p ++ flat r ∧ sub? r t = some q.2
  | .nd s a un, p, q => by
    rw [ysT, List.mem_cons, mem_yss un p 0 q]
    constructor
    · rintro (rfl | ⟨j, r, c, h1, h2, h3⟩)
      · exact ⟨[], by simp [flat], rfl⟩
      · exact ⟨j :: r, by simpa [flat] using h2, by simp only [sub?, h1]; exact h3⟩
    · rintro ⟨r, h1, h2⟩
      cases r with
      | nil =>
        left
        simp only [sub?, Option.some.injEq] at h2
        simp only [flat, List.append_nil] at h1
        rw [h2, ← h1]
      | cons j r =>
        right
        simp only [sub?] at h2
        split at h2
        · cases h2
        · rename_i c hc
          exact ⟨j, r, c, hc, by simpa [flat] using h1, h2⟩
theorem mem_yss : ∀ (cs : List Tr) (p : List Int) (i : Nat) (q : List Int × Tr), q ∈ yss cs p i ↔ ∃ j r c, cs[j]? = some c ∧ q.1 = p ++ 2 :: ((i + j : Nat) : Int) :: flat r ∧ sub? r c = some q.2
  | [], p, i, q => by simp [yss]
  | c :: cs, p, i, q => by
    rw [yss, List.mem_append, mem_ysT c _ q, mem_yss cs p (i + 1) q]
    constructor
    · rintro (⟨r, h1, h2⟩ | ⟨j, r, d, h1, h2, h3⟩)
      · exact ⟨0, r, c, rfl, by simpa using h1, h2⟩
      · exact ⟨j + 1, r, d, by simpa using h1, by rw [h2, show i + 1 + j = i + (j + 1) by omega], h3⟩
    · rintro ⟨j, r, d, h1, h2, h3⟩
      cases j with
      | zero =>
        left
        simp only [List.getElem?_cons_zero, Option.some.injEq] at h1
        subst h1
        exact ⟨r, by simpa using h2, h3⟩
      | succ j =>
        right
        exact ⟨j, r, d, by simpa using h1, by rw [h2, show i + 1 + j = i + (j + 1) by omega], h3⟩
end
theorem ysT_det {t : Tr} {q q' : List Int × Tr} (h : q ∈ ysT t []) (h' : q' ∈ ysT t []) (e : q.1 = q'.1) : q = q' := by
  obtain ⟨r, h1, h2⟩ := (mem_ysT t [] q).mp h
  obtain ⟨r', h3, h4⟩ := (mem_ysT t [] q').mp h'
  simp only [List.nil_append] at h1 h3
  have : r = r' := flat_inj (by rw [← h1, ← h3, e])
  subst this
  rw [h2] at h4
  exact Prod.ext e (Option.some.inj h4)
theorem find_ysT {t : Tr} {r : List Nat} : ((ysT t []).find? fun q => q.1 == flat r).map (·.2) = sub? r t := by
  cases h : (ysT t []).find? fun q => q.1 == flat r with
  | none =>
    cases hs : sub? r t with
    | none => rfl
    | some s =>
      have hm : (flat r, s) ∈ ysT t [] := (mem_ysT t [] _).mpr ⟨r, rfl, hs⟩
      have := List.find?_eq_none.mp h _ hm
      simp at this
  | some q =>
    have h1 := List.find?_some h
    have h2 := List.mem_of_find?_eq_some h
    obtain ⟨r', h3, h4⟩ := (mem_ysT t [] q).mp h2
    have e : r' = r := flat_inj (by simp only [List.nil_append] at h3; rw [← h3]; simpa using h1)
    subst e
    rw [h4]
    rfl
/-- yards stand behind those above them -/
def Pre : List (List Int × Tr) → Prop
  | [] => True
  | q :: B => (∀ s a un (i : Nat) c, q.2 = .nd s a un → un[i]? = some c → (q.1 ++ [2, (i : Int)], c) ∈ B) ∧ Pre B
theorem head_ysT (t : Tr) (p : List Int) : (p, t) ∈ ysT t p := (mem_ysT t p _).mpr ⟨[], by simp [flat], rfl⟩
mutual
theorem pre_ysT : ∀ (t : Tr) (p : List Int) (B : List (List Int × Tr)), Pre B → Pre (ysT t p ++ B)
  | .nd s a un, p, B, h => by
    rw [ysT, List.cons_append, Pre]
    refine ⟨fun s' a' un' i c e hc => ?_, pre_yss un p 0 B h⟩
    cases e
    exact List.mem_append_left _ ((mem_yss un p 0 _).mpr ⟨i, [], c, hc, by simp [flat], rfl⟩)
theorem pre_yss : ∀ (cs : List Tr) (p : List Int) (i : Nat) (B : List (List Int × Tr)), Pre B → Pre (yss cs p i ++ B)
  | [], _, _, _, h => h
  | c :: cs, p, i, B, h => by
    rw [yss, List.append_assoc]
    exact pre_ysT c _ _ (pre_yss cs p (i + 1) B h)
end
theorem pre_drop : ∀ {L : List (List Int × Tr)} (n : Nat), Pre L → Pre (L.drop n)
  | [], n, _ => by simp [Pre]
  | q :: L, 0, h => h
  | q :: L, n + 1, h => pre_drop (L := L) n h.2
mutual
theorem len_ysT : ∀ (t : Tr) (p q : List Int), (ysT t p).length = (ysT t q).length
  | .nd s a un, p, q => by simp only [ysT, List.length_cons, len_yss un p q 0 0]
theorem len_yss : ∀ (cs : List Tr) (p q : List Int) (i j : Nat), (yss cs p i).length = (yss cs q j).length
  | [], _, _, _, _ => rfl
  | c :: cs, p, q, i, j => by simp only [yss, List.length_append, len_ysT c (p ++ [2, (i : Int)]) (q ++ [2, (j : Int)]), len_yss cs p q (i + 1) (j + 1)]
end
theorem len_child : ∀ {cs : List Tr} {j : Nat} {c : Tr} {p : List Int} {i : Nat}, cs[j]? = some c → (ysT c []).length ≤ (yss cs p i).length
  | [], _, _, _, _, h => by simp at h
  | d :: cs, 0, c, p, i, h => by
    simp only [List.getElem?_cons_zero, Option.some.injEq] at h
    subst h
    rw [yss, List.length_append]
    have := len_ysT d (p ++ [2, (i : Int)]) []
    omega
  | d :: cs, j + 1, c, p, i, h => by
    rw [yss, List.length_append]
    have := len_child (cs := cs) (j := j) (p := p) (i := i + 1) (by simpa using h)
    omega
theorem len_kids : ∀ {cs : List Tr} {p : List Int} {i : Nat}, cs.length ≤ (yss cs p i).length
  | [], _, _ => Nat.zero_le _
  | c :: cs, p, i => by
    have h1 := len_kids (cs := cs) (p := p) (i := i + 1)
    have h2 := ysT_pos (t := c) (p := p ++ [2, (i : Int)])
    rw [yss, List.length_append, List.length_cons]
    omega
theorem len_sub : ∀ {r : List Nat} {t s : Tr}, sub? r t = some s → r.length + (ysT s []).length ≤ (ysT t []).length
  | [], t, s, h => by
    simp only [sub?, Option.some.injEq] at h
    subst h
    simp
  | j :: r, .nd s a un, t', h => by
    simp only [sub?] at h
    split at h
    · cases h
    · rename_i c hc
      have h1 := len_sub h
      have h2 := len_child (p := []) (i := 0) hc
      rw [ysT, List.length_cons, List.length_cons]
      omega
theorem good_sub {us : List Int} : ∀ {r : List Nat} {t s : Tr}, Good us t → sub? r t = some s → Good us s
  | [], t, s, g, h => by
    simp only [sub?, Option.some.injEq] at h
    subst h
    exact g
  | j :: r, .nd s a un, t', g, h => by
    simp only [sub?] at h
    split at h
    · cases h
    · rename_i c hc
      simp only [Good] at g
      exact good_sub (goodAll_get g.2.2 hc) h
/-! ## needs_table -/
def TabAll (us : List Int) (H : Hp) (b : Addr) (t : Tr) : Prop := ∃ kvs, H b = some (.dT kvs) ∧ ∀ q ∈ ysT t [], ∃ w, valV kvs (kR q.1) = some w ∧ At H w (dR (need us q.2))
theorem TabAll.at {us : List Int} {H : Hp} {b : Addr} {t : Tr} (h : TabAll us H b t) {r : List Nat} {s a : List Int} {un : List Tr} (hs : sub? r t = some (.nd s a un)) : Tabl us H b (flat r) un := by
  obtain ⟨kvs, h1, h2⟩ := h
  refine ⟨kvs, h1, fun i c hc => ?_⟩
  refine h2 (flat r ++ [2, (i : Int)], c) ((mem_ysT t [] _).mpr ⟨r ++ [i], by simp [flat_app, flat], ?_⟩)
  clear h2
  induction r generalizing t with
  | nil =>
    simp only [sub?, Option.some.injEq] at hs
    subst hs
    simp only [List.nil_append, sub?, hc]
  | cons j r ih =>
    cases t with
    | nd s0 a0 un0 =>
      simp only [sub?] at hs
      split at hs
      · cases hs
      · rename_i d hd
        simp only [List.cons_append, sub?, hd]
        exact ih hs
theorem TabAll.mono {us : List Int} {H H' : Hp} {b : Addr} {t : Tr} (h : TabAll us H b t) (e : Same H H') : TabAll us H' b t := by
  obtain ⟨kvs, h1, h2⟩ := h
  refine ⟨kvs, e _ _ h1, fun q hq => ?_⟩
  obtain ⟨w, h3, h4⟩ := h2 q hq
  exact ⟨w, h3, h4.mono e⟩
def spTable : Sp := fun vs H Q _ => ∃ (u v : V) (us : List Int) (t : Tr), vs = [u, v] ∧ At H u (dR us) ∧ Us us ∧ At H v (trD t) ∧ Good us t ∧ (ysT t []).length ≤ 400 ∧ ∀ b H', Same H H' → TabAll us H' b t → Q (.ref b) H'
section
variable {P : Program} {w : World} {K : PySem.W.Frag} {mg : Str → Option Value} {base : Heap} {f : Addr} {fd : FuncData} {A : XA}
theorem sc_needs_table : FnScope ["units", "tree", "found", "path", "here"] ["units", "tree"] (defScope (top 35)) := ⟨rfl, rfl, rfl, by decide +kernel, rfl, by decide +kernel, by decide +kernel⟩
theorem ok_needs_table (B : Bi mg) (C_yards_of : Cal P w K mg base CX0 1 "yards_of" ["tree"] spYards) (C_lack_row : Cal P w K mg base CX0 2 "lack_row" ["units", "order", "stock"] (spRow3 fun us a b => dR (lk us a b)))
    (C_asked_with : Cal P w K mg base CX0 2 "asked_with" ["here", "path", "table"] spAsked) (F : FnP K "needs_table" (top 35) f fd) :
    FnOk P w K mg base CX0 3 f fd ["units", "tree"] spTable := by
  refine ok0 F sc_needs_table (fun vs H Q E h => by obtain ⟨_, _, _, _, rfl, _⟩ := h; rfl) (fun cdv A' outer s0 H vs Q E hr h => ?_)
  obtain ⟨u, v, us, t, rfl, hu, hU, hv, hg, hz, k⟩ := h
  refine ⟨(tSeq (tAsg tDNewT (gName 2))
  (tSeq (tFor (iRev K (tCons (tCall spYards [] E0 (tCons (tVar 1) tNil)) tNil)) (gTup K 2 (gCons (gName 3) (gCons (gName 4) gNil))) (sDPut (tVar 2) (tVar 3) (tCall (spRow3 fun us a b => dR (lk us a b)) [] E0 (tCons (tVar 0) (tCons (tCall spAsked [] E0 (tCons (tVar 4) (tCons (tVar 3) (tCons (tVar 2) tNil)))) (tCons (tOp (rIxT K) (tVar 4) (tC (.int 0))) tNil))))))
  (tRet (tVar 2)))),
    (pss_cons (ps_set (i := 2) sc_needs_table.nd rfl (by first | exact Or.inl rfl | exact Or.inr rfl) pe_dnewT)
  (pss_cons (ps_for PassesOwn.never rfl (pi_reversed (by rfl) B.reversed (pa_cons (pe_cal C_yards_of hr (by first | decide | omega) (by rfl) pass0 (pa_cons (pv 1) pa_nil)) pa_nil)) (pg_tup rfl (pgs_cons (pg_name (i := 3) sc_needs_table.nd rfl (by first | exact Or.inl rfl | exact Or.inr rfl)) (pgs_cons (pg_name (i := 4) sc_needs_table.nd rfl (by first | exact Or.inl rfl | exact Or.inr rfl)) pgs_nil)))
  (pss_one (ps_dput (hu_of hr) (pv 2) (pv 3) (pe_cal C_lack_row hr (by first | decide | omega) (by rfl) pass0 (pa_cons (pv 0) (pa_cons (pe_cal C_asked_with hr (by first | decide | omega) (by rfl) pass0 (pa_cons (pv 4) (pa_cons (pv 3) (pa_cons (pv 2) pa_nil)))) (pa_cons (pe_ix ix_tup (pv 4) pe_int (fun _ _ => rfl)) pa_nil)))) rfl)))
  (pss_one (ps_ret (pv 2))))), ?_⟩
  refine fun b hb => ?_
  have n0 := same_new (o := .dT []) hb
  refine ⟨_, rfl, v, t, rfl, hv.mono n0, by omega, fun p xs H1 e1 hp0 hp hxs => ?_⟩
  have hb1 := e1 _ _ upd_same
  have e1' : Same H H1 := n0.trans e1
  have hlx := hxs.len
  rw [List.length_map] at hlx
  have hpre := pre_ysT t [] [] trivial
  rw [List.append_nil] at hpre
  have hpb : p ≠ b := ne_of hp hb1 (by intro z; cases z)
  refine ⟨p, xs, rfl, sqL hp, ?_⟩
  refine for_it (walk_rev (xs := xs)) (fun i σ H' => ∃ y3 y4 kvs, σ = [some u, some v, some (.ref b), y3, y4] ∧ Same H H' ∧ H' p = some (.lst xs) ∧ AtAll H' xs ((ysT t []).map itemT) ∧ H' b = some (.dT kvs) ∧ kvs.length ≤ i ∧
      ∀ q ∈ (ysT t []).drop (xs.length - i), ∃ w, valV kvs (kR q.1) = some w ∧ At H' w (dR (need us q.2)))
    ⟨none, none, [], rfl, e1', hp, hxs, hb1, Nat.le_refl _, ?_⟩ (fun i σ H' _ h => ?_) ?_ ?_
  · rw [Nat.sub_zero, hlx, List.drop_length]
    intro q hq
    cases hq
  · obtain ⟨_, _, _, _, _, h, _⟩ := h
    exact sqL h
  · rintro i x σ H2 H3 hi ⟨y3, y4, kvs, rfl, e2, hp2, hx2, hb2, hkl, htab⟩ hY
    obtain ⟨rfl, hx⟩ := hY
    obtain ⟨d1, ed, a1⟩ := hx2.getv hx
    rw [List.getElem?_map] at ed
    obtain ⟨q, eq, rfl⟩ : ∃ q, (ysT t [])[xs.length - 1 - i]? = some q ∧ itemT q = d1 := by
      cases hq : (ysT t [])[xs.length - 1 - i]? with
      | none => rw [hq] at ed; cases ed
      | some q => rw [hq] at ed; exact ⟨q, rfl, Option.some.inj ed⟩
    have hqm : q ∈ ysT t [] := List.mem_of_getElem? eq
    have edrop : (ysT t []).drop (xs.length - (i + 1)) = q :: (ysT t []).drop (xs.length - i) := by
      obtain ⟨h1, e1⟩ := List.getElem?_eq_some_iff.mp eq
      rw [show xs.length - (i + 1) = xs.length - 1 - i by omega, List.drop_eq_getElem_cons h1, e1, show xs.length - 1 - i + 1 = xs.length - i by omega]
    have hpq := pre_drop (xs.length - (i + 1)) hpre
    rw [edrop] at hpq
    obtain ⟨r, er, es⟩ := (mem_ysT t [] q).mp hqm
    rw [List.nil_append] at er
    obtain ⟨qp, s, a, un⟩ := q
    simp only at er es
    subst er
    have hlen := len_sub es
    have hgq := good_sub hg es
    have hgq' := hgq
    simp only [Good] at hgq
    have hkids : un.length ≤ (ysT t []).length := by
      have := len_kids (cs := un) (p := []) (i := 0)
      rw [ysT, List.length_cons] at hlen
      omega
    obtain ⟨T, x0, x1, rfl, hT, h0, h1⟩ := a1.two
    obtain ⟨a5, w0, w1, a6, ks, rfl, h5, v0, v1, h6, v6⟩ := h1.tr
    have hz3 := hU.1
    refine ⟨T, _, rfl, sqT hT, rfl, _, _, rfl, _, _, rfl, rfl, ?_⟩
    refine ⟨_, rfl, _, rfl, _, rfl, _, rfl, _, _, b, us, s, a, un, flat r, rfl, h1, h0, ⟨kvs, hb2, fun j c hc => ?_⟩, hgq.2.2, hgq.2.1, hz3, by rw [flat_len]; omega, by omega, fun v5 H5 e5 a5' => ?_⟩
    · exact htab _ (hpq.1 s a un j c rfl hc)
    have ra := asked_row hgq.2.2 hgq.2.1
    refine ⟨_, rfl, a5, _, 0, _, rfl, rfl, sqT (e5 _ _ h5), atI_nat (j := 0) rfl, _, _, _, us, _, s, rfl, hu.mono (e2.trans e5), a5', v0.mono e5, ra.1, hgq.1.1, hU, fun v6 H6 e6 a6' => ?_⟩
    have e56 := e5.trans e6
    obtain ⟨px, rfl, hpx⟩ := h0.of_row
    have hb6 := e56 _ _ hb2
    have nb6 : NT H6 b := fun ys z => by rw [hb6] at z; cases z
    refine ⟨_, rfl, _, rfl, b, _, rfl, DPut.t hb6 (by rw [kR_V]; exact e56 _ _ hpx) (small' (by omega)), _, _, _, rfl, same_mut (e2.trans e56) hb, ?_, (hx2.mono e56).mut nb6 (noL_items _), upd_same, ?_, ?_⟩
    · rw [upd_ne hpb]
      exact e56 _ _ hp2
    · unfold putK
      split
      · rw [List.length_map]; omega
      · rw [List.length_append, List.length_singleton]; omega
    · intro q' hq'
      rw [edrop] at hq'
      rw [valV_put]
      rcases List.mem_cons.mp hq' with rfl | hq'
      · refine ⟨v6, if_pos rfl, a6'.mut nb6 ?_⟩
        exact noL_dR _
      · have hq'm : q' ∈ ysT t [] := List.mem_of_mem_drop hq'
        obtain ⟨w', hw1, hw2⟩ := htab q' hq'
        by_cases hk : kR q'.1 = kR (flat r)
        · have e := ysT_det hq'm hqm (kR_inj hk)
          subst e
          exact ⟨v6, if_pos rfl, a6'.mut nb6 (noL_dR _)⟩
        · exact ⟨w', by rw [if_neg hk]; exact hw1, (hw2.mono e56).mut nb6 (noL_dR _)⟩
  · rintro σ H2 ⟨y3, y4, kvs, rfl, e2, hp2, hx2, hb2, hkl, htab⟩
    rw [Nat.sub_self, List.drop_zero] at htab
    exact ⟨_, rfl, k b _ e2 ⟨kvs, hb2, htab⟩⟩
end
end K26
set_option Elab.async false
set_option linter.all false
set_option maxRecDepth 100000
set_option maxHeartbeats 4000000
namespace K26
open PySem PySem.Spec PyProof.Rows L2 RZ RT
/-! ## is_served, handed_down, least_added -/
theorem At.row_tup {H : Hp} {a : Addr} {l : List Int} (h : At H (.ref a) (dR l)) : H a = some (.tup (l.map V.int)) := by
  obtain ⟨a', e, h⟩ := h.of_row
  cases e
  exact h
def spServed (A : XA) : Sp := fun vs H Q _ => ∃ (u v : V) (us : List Int) (t : Tr), vs = [u, v] ∧ At H u (dR us) ∧ Us us ∧ At H v (trD t) ∧ Good us t ∧ (ysT t []).length ≤ 400 ∧ needTreeP (dR us) (trD t) = .ok (trD t) ∧ Ret H Q (.bool (need us t == zer us))
theorem askedBut_snoc {us : List Int} : ∀ {cs : List Tr} {i : Nat} {acc : List Int} {c : Tr}, askedBut us i acc (cs ++ [c]) = if cs.length = i then askedBut us i acc cs else add (askedBut us i acc cs) (need us c)
  | [], 0, acc, c => by simp [askedBut, asked]
  | [], i + 1, acc, c => by simp [askedBut]
  | d :: cs, 0, acc, c => by simp [askedBut, asked_snoc]
  | d :: cs, i + 1, acc, c => by
    simp only [List.cons_append, askedBut, List.length_cons]
    rw [askedBut_snoc]
    by_cases h : cs.length = i
    · rw [if_pos h, if_pos (by omega)]
    · rw [if_neg h, if_neg (by omega)]
theorem sub_snoc : ∀ {r : List Nat} {t : Tr} {s a : List Int} {un : List Tr} {i : Nat}, sub? r t = some (.nd s a un) → sub? (r ++ [i]) t = un[i]?
  | [], t, s, a, un, i, h => by
    simp only [sub?, Option.some.injEq] at h
    subst h
    simp only [List.nil_append, sub?]
    cases un[i]? <;> rfl
  | j :: r, .nd s0 a0 un0, s, a, un, i, h => by
    simp only [sub?] at h
    split at h
    · cases h
    · rename_i d hd
      simp only [List.cons_append, sub?, hd]
      exact sub_snoc h
theorem sub_app : ∀ {r q : List Nat} {t s : Tr}, sub? r t = some s → sub? (r ++ q) t = sub? q s
  | [], q, t, s, h => by
    simp only [sub?, Option.some.injEq] at h
    subst h
    rfl
  | j :: r, q, .nd s0 a0 un0, s, h => by
    simp only [sub?] at h
    split at h
    · cases h
    · rename_i d hd
      simp only [List.cons_append, sub?, hd]
      exact sub_app h
theorem flat_get : ∀ {d : List Nat} {i : Nat} {r : List Nat}, ((flat (d ++ i :: r)).map V.int)[2 * d.length + 1]? = some (.int (i : Nat))
  | [], i, r => rfl
  | j :: d, i, r => by
    have h := flat_get (d := d) (i := i) (r := r)
    simp only [List.cons_append, flat, List.map_cons, List.length_cons]
    rw [show 2 * (d.length + 1) + 1 = (2 * d.length + 1) + 1 + 1 by omega]
    simpa using h
def spHanded : Sp := fun vs H Q _ => ∃ (u v y : V) (b : Addr) (us : List Int) (t s : Tr) (r : List Nat), vs = [u, v, .ref b, y] ∧ At H u (dR us) ∧ Us us ∧ At H v (trD t) ∧ Good us t ∧ (ysT t []).length ≤ 400 ∧ TabAll us H b t ∧ At H y (dR (flat r)) ∧ sub? r t = some s ∧ Ret H Q (dO (hd us r t (zer us)))
def leastP (us : List Int) (t : Tr) (d : PyData) : Out := match yardAt t d with
  | none => .index d
  | some _ => match least us (unflat ((pathP d).getD [])) t with
    | none => .lack
    | some l => .ok (dR l)
theorem yardAt_some {t s : Tr} {d : PyData} (h : yardAt t d = some s) : ∃ r, d = dR (flat r) ∧ sub? r t = some s := by
  unfold yardAt at h
  cases d with
  | tuple ds =>
    rw [pathP_tup] at h
    split at h
    · rename_i hn
      rw [Option.bind_some] at h
      cases hf : (ysT t []).find? fun q => q.1 == ds.map toI with
      | none => rw [hf] at h; cases h
      | some q =>
        rw [hf] at h
        have h1 := List.find?_some hf
        obtain ⟨r, h3, h4⟩ := (mem_ysT t [] q).mp (List.mem_of_find?_eq_some hf)
        refine ⟨r, ?_, by rw [h4]; exact h⟩
        rw [List.nil_append] at h3
        unfold dR
        rw [← h3, show q.1 = ds.map toI by simpa using h1, nat_ints hn]
    · cases h
  | _ => cases h
theorem pathP_flat (r : List Nat) : pathP (dR (flat r)) = some (flat r) := by
  unfold dR
  rw [pathP_tup]
  have : ∀ r : List Nat, ((flat r).map PyData.int).all natP = true := by
    intro r
    induction r with
    | nil => rfl
    | cons i r ih =>
      simp only [flat, List.map_cons, List.all_cons, ih, Bool.and_true]
      show (decide ((0 : Int) ≤ 2) && decide ((0 : Int) ≤ (i : Nat))) = true
      simp
  rw [this, if_pos rfl, List.map_map]
  congr 1
  exact (List.map_congr_left (fun x _ => rfl)).trans (List.map_id _)
theorem unflat_path (r : List Nat) : unflat ((pathP (dR (flat r))).getD []) = r := by
  rw [pathP_flat]
  exact unflat_flat r
theorem yardAt_of {t s : Tr} {r : List Nat} (h : sub? r t = some s) : yardAt t (dR (flat r)) = some s := by
  unfold yardAt
  rw [pathP_flat, Option.bind_some, find_ysT, h]
def spLeast (A : XA) : Sp := fun vs H Q E => ∃ (u v y : V) (U d dp : PyData), vs = [u, v, y] ∧ At H u U ∧ At H v d ∧ At H y dp ∧ d.canLay0 = true ∧ (∀ ds, dp = .tuple ds → ds.length ≤ 1000) ∧
  (((∀ e, needTreeP U d ≠ .ok e) ∧ Go A H Q E (needTreeP U d)) ∨ ∃ us t, U = dR us ∧ Us us ∧ d = trD t ∧ Good us t ∧ (ysT t []).length ≤ 400 ∧ needTreeP (dR us) (trD t) = .ok (trD t) ∧ Go A H Q E (leastP us t dp))
section
variable {P : Program} {w : World} {K : PySem.W.Frag} {mg : Str → Option Value} {base : Heap} {f : Addr} {fd : FuncData} {A : XA}
theorem sc_is_served : FnScope ["units", "tree"] ["units", "tree"] (defScope (top 36)) := ⟨rfl, rfl, rfl, by decide +kernel, rfl, by decide +kernel, by decide +kernel⟩
theorem ok_is_served (B : Bi mg) (C_need_tree : Cal P w K mg base (L2.CX P w) 4 "need_tree" ["units", "value"] (spNeedTree A)) (C_needs_table : Cal P w K mg base CX0 3 "needs_table" ["units", "tree"] spTable) (C_zeros_of : Cal P w K mg base CX0 1 "zeros_of" ["units"] spZer) (F : FnP K "is_served" (top 36) f fd) :
    FnOk P w K mg base (L2.CX P w) 5 f fd ["units", "tree"] (spServed A) := by
  refine okX F sc_is_served (fun vs H Q E h => by obtain ⟨_, _, _, _, rfl, _⟩ := h; rfl) (fun cdv A' outer s0 H vs Q E hr h => ?_)
  obtain ⟨u, v, us, t, rfl, hu, hU, hv, hg, hz, hnt, k⟩ := h
  refine ⟨(tSeq (tDrop (tCall (spNeedTree A) [] E (tCons (tVar 0) (tCons (tVar 1) tNil))))
  (tRet (tOp (rEqD K) (tDGet (tCall spTable [] E0 (tCons (tVar 0) (tCons (tVar 1) tNil))) (tTup tNil)) (tCall spZer [] E0 (tCons (tVar 0) tNil))))),
    (pss_cons (ps_expr (pe_cal C_need_tree hr (by first | decide | omega) (by rfl) (passes_call (takes_of rfl rfl rfl rfl) (fun _ _ _ _ h => h)) (pa_cons (pv 0) (pa_cons (pv 1) pa_nil))))
  (pss_one (ps_ret (pe_cmpR (op_eqD hr.units) (pe_dget (hu_of hr) (pe_cal C_needs_table hr (by first | decide | omega) (by rfl) pass0 (pa_cons (pv 0) (pa_cons (pv 1) pa_nil))) (pe_tup pa_nil) (fun _ _ => rfl)) (pe_cal C_zeros_of hr (by first | decide | omega) (by rfl) pass0 (pa_cons (pv 0) pa_nil)) (nomark _))))), ?_⟩
  refine ⟨_, rfl, _, rfl, u, v, dR us, trD t, rfl, hu, hv, canLay_trD t, ?_⟩
  rw [hnt]
  intro v1 H1 e1 a1
  refine ⟨_, rfl, _, rfl, u, v, us, t, rfl, hu.mono e1, hU, hv.mono e1, hg, hz, fun b H2 e2 hb => ?_⟩
  obtain ⟨kvs, hb1, hb2⟩ := hb
  obtain ⟨w0, hw1, hw2⟩ := hb2 _ (head_ysT t [])
  refine ⟨small_ (by simp), fun t1 ht1 => ?_⟩
  have n1 := same_new (o := .tup []) ht1
  refine ⟨b, w0, rfl, ?_, ?_⟩
  · have := DGet.t (k := kR []) (n1 _ _ hb1) (show (upd H2 t1 (.tup [])) t1 = some (.tup ((kR []).map kV)) from upd_same)
    rw [hw1] at this
    exact this
  refine ⟨_, rfl, u, us, rfl, hu.mono (e1.trans (e2.trans n1)), hU.1, fun v3 H3 e3 a3 => ?_⟩
  refine ⟨_, _, (hw2.mono (n1.trans e3)).dp, a3.dp, shaped_dR _, shaped_dR _, ?_⟩
  rw [eqv_dR]
  exact k.go (e1.trans (e2.trans (n1.trans e3))) (.bl _)
theorem sc_handed_down : FnScope ["units", "tree", "table", "path", "here", "place", "row", "index", "asked", "other"] ["units", "tree", "table", "path"] (defScope (top 38)) := ⟨rfl, rfl, rfl, by decide +kernel, rfl, by decide +kernel, by decide +kernel⟩
theorem ok_handed_down (B : Bi mg) (C_added : Cal P w K mg base CX0 1 "added" ["one", "other"] spAdd) (C_rest_row : Cal P w K mg base CX0 2 "rest_row" ["units", "stock", "order"] (spRow3 fun us a b => dO (rest us a b))) (C_zeros_of : Cal P w K mg base CX0 1 "zeros_of" ["units"] spZer) (F : FnP K "handed_down" (top 38) f fd) :
    FnOk P w K mg base CX0 3 f fd ["units", "tree", "table", "path"] spHanded := by
  refine ok0 F sc_handed_down (fun vs H Q E h => by obtain ⟨_, _, _, _, _, _, _, _, rfl, _⟩ := h; rfl) (fun cdv A' outer s0 H vs Q E hr h => ?_)
  obtain ⟨u, v, y, b, us, t, s, r, rfl, hu, hU, hv, hg, hz, hT, hy, hs, k⟩ := h
  refine ⟨(tSeq (tAsg (tVar 1) (gName 4))
  (tSeq (tAsg (tTup tNil) (gName 5))
  (tSeq (tAsg (tCall spZer [] E0 (tCons (tVar 0) tNil)) (gName 6))
  (tSeq (tWhile (tTest (tOp (rNeD K) (tVar 5) (tVar 3))) (tSeq (tAsg (tOp (rIxT K) (tVar 3) (tOp (rI0 fun i j => .int (i + j)) (tCB (rLenQ K) (tCons (tVar 5) tNil)) (tC (.int 1)))) (gName 7))
  (tSeq (tAsg (tOp (rIxT K) (tVar 4) (tC (.int 1))) (gName 8))
  (tSeq (tFor (iRng1 (tCons (tCB (rLenQ K) (tCons (tOp (rIxT K) (tVar 4) (tC (.int 2))) tNil)) tNil)) (gName 9) (tIfS (tTest (tOp rNe (tVar 9) (tVar 7))) (tAsg (tCall spAdd [] E0 (tCons (tVar 8) (tCons (tDGet (tVar 2) (tOp (rCatA K) (tVar 5) (tTup (tCons (tC (.int 2)) (tCons (tVar 9) tNil))))) tNil))) (gName 8)) tNext))
  (tSeq (tAsg (tCall (spRow3 fun us a b => dO (rest us a b)) [] E0 (tCons (tVar 0) (tCons (tCall spAdd [] E0 (tCons (tOp (rIxT K) (tVar 4) (tC (.int 0))) (tCons (tVar 6) tNil))) (tCons (tVar 8) tNil)))) (gName 6))
  (tSeq (tIfS (tTest (tOp rIsNQ (tVar 6) (tC .non))) (tRet (tC .non)) tNext)
  (tSeq (tAsg (tOp (rIxT K) (tOp (rIxT K) (tVar 4) (tC (.int 2))) (tVar 7)) (gName 4))
  (tAsg (tOp (rCatA K) (tVar 5) (tTup (tCons (tC (.int 2)) (tCons (tVar 7) tNil)))) (gName 5)))))))))
  (tRet (tVar 6)))))),
    (pss_cons (ps_set (i := 4) sc_handed_down.nd rfl (by first | exact Or.inl rfl | exact Or.inr rfl) (pv 1))
  (pss_cons (ps_set (i := 5) sc_handed_down.nd rfl (by first | exact Or.inl rfl | exact Or.inr rfl) (pe_tup pa_nil))
  (pss_cons (ps_set (i := 6) sc_handed_down.nd rfl (by first | exact Or.inl rfl | exact Or.inr rfl) (pe_cal C_zeros_of hr (by first | decide | omega) (by rfl) pass0 (pa_cons (pv 0) pa_nil)))
  (pss_cons (ps_while PassesOwn.never (pt_cmpR (op_neD hr.units) (pv 5) (pv 3) (nomark _))
  (pss_cons (ps_set (i := 7) sc_handed_down.nd rfl (by first | exact Or.inl rfl | exact Or.inr rfl) (pe_ix ix_tup (pv 3) (pe_op op_add (pe_callB call_lenQ (by rfl) B.len (by decide +kernel) (pa_cons (pv 5) pa_nil)) pe_int) (fun _ _ => rfl)))
  (pss_cons (ps_set (i := 8) sc_handed_down.nd rfl (by first | exact Or.inl rfl | exact Or.inr rfl) (pe_ix ix_tup (pv 4) pe_int (fun _ _ => rfl)))
  (pss_cons (ps_for PassesOwn.never rfl (pi_range1 (by rfl) B.range (pa_cons (pe_callB call_lenQ (by rfl) B.len (by decide +kernel) (pa_cons (pe_ix ix_tup (pv 4) pe_int (fun _ _ => rfl)) pa_nil)) pa_nil)) (pg_name (i := 9) sc_handed_down.nd rfl (by first | exact Or.inl rfl | exact Or.inr rfl))
  (pss_one (ps_if (pt_cmpR op_ne (pv 9) (pv 7) (nomark _))
  (pss_one (ps_set (i := 8) sc_handed_down.nd rfl (by first | exact Or.inl rfl | exact Or.inr rfl) (pe_cal C_added hr (by first | decide | omega) (by rfl) pass0 (pa_cons (pv 8) (pa_cons (pe_dget (hu_of hr) (pv 2) (pe_op op_catA (pv 5) (pe_tup (pa_cons pe_int (pa_cons (pv 9) pa_nil)))) (fun _ _ => rfl)) pa_nil)))))
  pss_nil)))
  (pss_cons (ps_set (i := 6) sc_handed_down.nd rfl (by first | exact Or.inl rfl | exact Or.inr rfl) (pe_cal C_rest_row hr (by first | decide | omega) (by rfl) pass0 (pa_cons (pv 0) (pa_cons (pe_cal C_added hr (by first | decide | omega) (by rfl) pass0 (pa_cons (pe_ix ix_tup (pv 4) pe_int (fun _ _ => rfl)) (pa_cons (pv 6) pa_nil))) (pa_cons (pv 8) pa_nil)))))
  (pss_cons (ps_if (pt_cmpR op_isNQ (pv 6) pe_non (nomark _))
  (pss_one (ps_ret pe_non))
  pss_nil)
  (pss_cons (ps_set (i := 4) sc_handed_down.nd rfl (by first | exact Or.inl rfl | exact Or.inr rfl) (pe_ix ix_tup (pe_ix ix_tup (pv 4) pe_int (fun _ _ => rfl)) (pv 7) (fun _ _ => rfl)))
  (pss_one (ps_set (i := 5) sc_handed_down.nd rfl (by first | exact Or.inl rfl | exact Or.inr rfl) (pe_op op_catA (pv 5) (pe_tup (pa_cons pe_int (pa_cons (pv 7) pa_nil)))))))))))))
  (pss_one (ps_ret (pv 6))))))), ?_⟩
  have hz3 := hU.1
  have hrl := len_sub hs
  refine ⟨_, rfl, small_ (by simp), fun t1 ht1 => ?_⟩
  have n1 := same_new (o := .tup []) ht1
  refine ⟨_, rfl, u, us, rfl, hu.mono n1, hz3, fun v1 H1 e1 a1 => ?_⟩
  refine ⟨fun m σ H' => ∃ x4 x5 x6 y7 y8 y9 dn td cur row, σ = [some u, some v, some (.ref b), some y, some x4, some x5, some x6, y7, y8, y9] ∧ Same H H' ∧ m = td.length ∧ r = dn ++ td ∧ sub? dn t = some cur ∧ At H' x4 (trD cur) ∧ At H' x5 (dR (flat dn)) ∧ At H' x6 (dR row) ∧ Row us row ∧ hd us td cur row = hd us r t (zer us),
    ⟨_, v, _, v1, none, none, none, [], r, t, zer us, rfl, n1.trans e1, rfl, rfl, rfl, hv.mono (n1.trans e1), At.mono e1 (At.row (l := []) upd_same), a1, zer_row us, rfl⟩, ?_⟩
  rintro m σ H2 ⟨x4, x5, x6, y7, y8, y9, dn, td, cur, row, rfl, e2, rfl, rfl, hcur, h4, h5, h6, hrow, hhd⟩
  refine ⟨_, rfl, _, rfl, _, _, h5.dp, (hy.mono e2).dp, shaped_dR _, shaped_dR _, _, rfl, ?_⟩
  rw [eqv_dR]
  cases td with
  | nil =>
    rw [List.append_nil] at k hhd ⊢
    rw [show (flat dn == flat dn) = true by simp]
    refine iteF ⟨_, rfl, ?_⟩
    rw [← hhd] at k
    exact k.go e2 h6
  | cons i td =>
    have hne : (flat dn == flat (dn ++ i :: td)) = false := by
      rw [beq_eq_false_iff_ne]
      intro z
      have := congrArg List.length z
      rw [flat_len, flat_len, List.length_append, List.length_cons] at this
      omega
    rw [hne]
    refine iteT ⟨fun σ' H' => ∃ m', m' < (i :: td).length ∧ _, fun _ _ h => h, ?_⟩
    obtain ⟨sc, ac, un⟩ := cur
    have hgc := good_sub hg hcur
    have hgc' := hgc
    simp only [Good] at hgc
    have hsub : sub? (i :: td) (Tr.nd sc ac un) = some s := by rw [← hs, sub_app hcur]
    obtain ⟨c, hc, hsc⟩ : ∃ c, un[i]? = some c ∧ sub? td c = some s := by
      simp only [sub?] at hsub
      split at hsub
      · cases hsub
      · rename_i d hd
        exact ⟨d, hd, hsub⟩
    have hil := (List.getElem?_eq_some_iff.mp hc).1
    have hlc := len_sub hcur
    have hkl : un.length ≤ 400 := by
      have := len_kids (cs := un) (p := []) (i := 0)
      rw [ysT, List.length_cons] at hlc
      omega
    obtain ⟨py, rfl, hpy⟩ := hy.of_row
    obtain ⟨p5, rfl, hp5⟩ := h5.of_row
    obtain ⟨p4, w0, w1, p6, ks, rfl, q4, v0, v1', q6, vks⟩ := h4.tr
    have lks := vks.len
    rw [trDs_map, List.length_map] at lks
    -- index = path[len(place) + 1]
    refine ⟨_, rfl, _, rfl, p5, _, rfl, .inr (sqT hp5), _, 1, rfl, rfl, py, _, _, .int (i : Nat), rfl, rfl, sqT (e2 _ _ hpy), ?_, ?_⟩
    · rw [show ((List.map V.int (flat dn)).length : Int) + 1 = ((2 * dn.length + 1 : Nat) : Int) by rw [List.length_map, flat_len]; rfl]
      exact atI_nat flat_get
    refine ⟨_, rfl, p4, _, 1, _, rfl, rfl, sqT q4, atI_nat (j := 1) rfl, ?_⟩
    refine ⟨_, rfl, p4, _, 2, _, rfl, rfl, sqT q4, atI_nat (j := 2) rfl, p6, _, rfl, .inr (sqT q6), _, rfl, by omega, by omega, ?_⟩
    refine for_it walk_range (fun j σ H' => ∃ x8 y9, σ = [some u, some v, some (.ref b), some (.ref py), some (.ref p4), some (.ref p5), some x6, some (.int (i : Nat)), some x8, y9] ∧ Same H2 H' ∧ At H' x8 (dR (askedBut us i ac (un.take j))))
      ⟨w1, y9, rfl, Same.refl H2, by simpa [askedBut] using v1'⟩ (fun i σ H' _ h => trivial) ?_ ?_
    · rintro j z σ H3 H4 hj ⟨x8, y9, rfl, e3, h8⟩ ⟨rfl, rfl⟩
      have hj' : j < un.length := by omega
      have cd : un[j]? = some (un[j]'hj') := List.getElem?_eq_getElem hj'
      have et : un.take (j + 1) = un.take j ++ [un[j]'hj'] := by rw [List.take_succ, cd]; rfl
      have rn := (need_row (goodAll_get hgc.2.2 cd)).1
      have rt := askedBut_row (i := i) (goodAll_take (n := j) hgc.2.2) hgc.2.1
      dsimp only
      rw [Int.zero_add]
      refine ⟨_, rfl, _, rfl, rfl, _, rfl, ?_⟩
      by_cases hji : j = i
      · subst hji
        rw [decide_eq_true rfl]
        refine iteF ⟨x8, _, rfl, e3, ?_⟩
        rw [et, askedBut_snoc, if_pos (by rw [List.length_take]; omega)]
        exact h8
      · rw [decide_eq_false (fun z => by injection z with z; omega)]
        refine iteT ⟨_, rfl, _, rfl, _, rfl, _, rfl, small_ (by simp), fun t7 ht7 => ?_⟩
        have n7 := same_new (o := .tup [.int 2, .int (j : Nat)]) ht7
        refine cat_row (h5.mono (e3.trans n7)) (At.row (l := [2, (j : Int)]) upd_same) (by rw [flat_len]; simp; omega) fun vp H5 e5 ap => ?_
        have e35 := e3.trans (n7.trans e5)
        obtain ⟨kvs, hk1, hk2⟩ := ((hT.at hcur).mono (e2.trans e35))
        obtain ⟨w5, hw1, hw2⟩ := hk2 j _ cd
        obtain ⟨vp, rfl, hvp⟩ := ap.of_row
        refine ⟨b, w5, rfl, ?_, _, _, _, _, rfl, h8.mono (n7.trans e5), hw2, by rw [rt.1, rn.1], by rw [rt.1]; omega, fun v5 H6 e6 a6 => ?_⟩
        · rw [← hw1]
          exact DGet.t hk1 (by rw [kR_V]; exact hvp)
        · refine ⟨v5, _, rfl, e35.trans e6, ?_⟩
          rw [et, askedBut_snoc, if_neg (by rw [List.length_take]; omega)]
          exact a6
    · rintro σ H3 ⟨x8, y9, rfl, e3, h8⟩
      rw [List.take_of_length_le (by omega)] at h8
      have e23 := e2.trans e3
      have rb := askedBut_row (i := i) hgc.2.2 hgc.2.1
      have ra := hgc.1.add hrow
      refine ⟨_, rfl, _, rfl, p4, _, 0, _, rfl, rfl, sqT (e3 _ _ q4), atI_nat (j := 0) rfl, _, rfl, _, _, _, _, rfl, v0.mono e3, h6.mono e3, by rw [hgc.1.1, hrow.1], by rw [hgc.1.1]; omega, fun v4 H4 e4 a4 => ?_⟩
      refine ⟨_, rfl, u, v4, x8, us, _, _, rfl, hu.mono (e23.trans e4), a4, h8.mono e4, ra.1, rb.1, hU, fun v5 H5 e5 a5 => ?_⟩
      refine ⟨_, rfl, rfl, _, rfl, ?_⟩
      have e25 := e23.trans (e4.trans e5)
      have e35 := e3.trans (e4.trans e5)
      have hq : hd us (i :: td) (Tr.nd sc ac un) row = match rest us (add sc row) (askedBut us i ac un) with
          | none => none
          | some x => hd us td c x := by simp only [hd, hc]; first | done | (cases rest us (add sc row) (askedBut us i ac un) <;> rfl)
      rw [hq] at hhd
      have a5' : At H5 v5 (dO (rest us (add sc row) (askedBut us i ac un))) := a5
      cases hrest : rest us (add sc row) (askedBut us i ac un) with
      | none =>
        rw [hrest] at a5' hhd
        rw [← hhd] at k
        cases a5'
        rw [decide_eq_true rfl]
        exact iteT (Ret.go k e25 .non)
      | some x =>
        rw [hrest] at a5' hhd
        have a6 : At H5 v5 (dR x) := a5'
        obtain ⟨px, rfl, hpx⟩ := a6.of_row
        rw [decide_eq_false (by intro z; cases z)]
        have hc' : (trDs un)[i]? = some (trD c) := by rw [trDs_map, List.getElem?_map, hc]; rfl
        obtain ⟨z, ez, az⟩ := vks.get hc'
        refine iteF ⟨_, rfl, p4, _, 2, _, rfl, rfl, sqT (e35 _ _ q4), atI_nat (j := 2) rfl, _, rfl, p6, _, _, z, rfl, rfl, sqT (e35 _ _ q6), atI_nat ez, ?_⟩
        refine ⟨_, rfl, _, rfl, small_ (by simp), fun t7 ht7 => ?_⟩
        have n7 := same_new (o := .tup [.int 2, .int (i : Nat)]) ht7
        refine cat_row (h5.mono (e35.trans n7)) (At.row (l := [2, (i : Int)]) upd_same) (by rw [flat_len]; simp; omega) fun vp H6 e6 ap => ?_
        refine ⟨td.length, by simp, _, _, _, _, _, _, dn ++ [i], td, c, x, rfl, e25.trans (n7.trans e6), rfl, by simp, by rw [sub_snoc hcur]; exact hc, az.mono (e35.trans (n7.trans e6)), ?_, a6.mono (n7.trans e6), rest_row hU.ps rb.1 ra.1 hrest, hhd⟩
        rw [flat_app]
        exact ap
theorem sc_least_added : FnScope ["units", "tree", "path", "here", "table", "row"] ["units", "tree", "path"] (defScope (top 39)) := ⟨rfl, rfl, rfl, by decide +kernel, rfl, by decide +kernel, by decide +kernel⟩
theorem ok_least_added (B : Bi mg) (X_NoRow : Xc0 P w K mg base "NoRow" A.nr) (C_need_tree : Cal P w K mg base (L2.CX P w) 4 "need_tree" ["units", "value"] (spNeedTree A)) (C_yard_with : Cal P w K mg base (L2.CX P w) 3 "yard_with" ["tree", "path"] (spYardWith A))
    (C_needs_table : Cal P w K mg base CX0 3 "needs_table" ["units", "tree"] spTable) (C_handed_down : Cal P w K mg base CX0 3 "handed_down" ["units", "tree", "table", "path"] spHanded) (C_asked_with : Cal P w K mg base CX0 2 "asked_with" ["here", "path", "table"] spAsked)
    (C_added : Cal P w K mg base CX0 1 "added" ["one", "other"] spAdd) (C_lack_row : Cal P w K mg base CX0 2 "lack_row" ["units", "order", "stock"] (spRow3 fun us a b => dR (lk us a b))) (F : FnP K "least_added" (top 39) f fd) :
    FnOk P w K mg base (L2.CX P w) 5 f fd ["units", "tree", "path"] (spLeast A) := by
  refine okX F sc_least_added (fun vs H Q E h => by obtain ⟨_, _, _, _, _, _, rfl, _⟩ := h; rfl) (fun cdv A' outer s0 H vs Q E hr h => ?_)
  obtain ⟨u, v, y, U, d, dp, rfl, hu, hv, hy, hcl, hdz, k⟩ := h
  refine ⟨(tSeq (tDrop (tCall (spNeedTree A) [] E (tCons (tVar 0) (tCons (tVar 1) tNil))))
  (tSeq (tAsg (tCall (spYardWith A) [] E (tCons (tVar 1) (tCons (tVar 2) tNil))) (gName 3))
  (tSeq (tAsg (tCall spTable [] E0 (tCons (tVar 0) (tCons (tVar 1) tNil))) (gName 4))
  (tSeq (tAsg (tCall spHanded [] E0 (tCons (tVar 0) (tCons (tVar 1) (tCons (tVar 4) (tCons (tVar 2) tNil))))) (gName 5))
  (tSeq (tIfS (tTest (tOp rIsNQ (tVar 5) (tC .non))) (tRs0 A.nr (fun c d _ H => E c d H)) tNext)
  (tRet (tCall (spRow3 fun us a b => dR (lk us a b)) [] E0 (tCons (tVar 0) (tCons (tCall spAsked [] E0 (tCons (tVar 3) (tCons (tVar 2) (tCons (tVar 4) tNil)))) (tCons (tCall spAdd [] E0 (tCons (tOp (rIxT K) (tVar 3) (tC (.int 0))) (tCons (tVar 5) tNil))) tNil)))))))))),
    (pss_cons (ps_expr (pe_cal C_need_tree hr (by first | decide | omega) (by rfl) (passes_call (takes_of rfl rfl rfl rfl) (fun _ _ _ _ h => h)) (pa_cons (pv 0) (pa_cons (pv 1) pa_nil))))
  (pss_cons (ps_set (i := 3) sc_least_added.nd rfl (by first | exact Or.inl rfl | exact Or.inr rfl) (pe_cal C_yard_with hr (by first | decide | omega) (by rfl) (passes_call (takes_of rfl rfl rfl rfl) (fun _ _ _ _ h => h)) (pa_cons (pv 1) (pa_cons (pv 2) pa_nil))))
  (pss_cons (ps_set (i := 4) sc_least_added.nd rfl (by first | exact Or.inl rfl | exact Or.inr rfl) (pe_cal C_needs_table hr (by first | decide | omega) (by rfl) pass0 (pa_cons (pv 0) (pa_cons (pv 1) pa_nil))))
  (pss_cons (ps_set (i := 5) sc_least_added.nd rfl (by first | exact Or.inl rfl | exact Or.inr rfl) (pe_cal C_handed_down hr (by first | decide | omega) (by rfl) pass0 (pa_cons (pv 0) (pa_cons (pv 1) (pa_cons (pv 4) (pa_cons (pv 2) pa_nil))))))
  (pss_cons (ps_if (pt_cmpR op_isNQ (pv 5) pe_non (nomark _))
  (pss_one (ps_rs0 rfl (takes_of rfl rfl rfl rfl) X_NoRow hr (by first | decide | omega) (by rfl)))
  pss_nil)
  (pss_one (ps_ret (pe_cal C_lack_row hr (by first | decide | omega) (by rfl) pass0 (pa_cons (pv 0) (pa_cons (pe_cal C_asked_with hr (by first | decide | omega) (by rfl) pass0 (pa_cons (pv 3) (pa_cons (pv 2) (pa_cons (pv 4) pa_nil)))) (pa_cons (pe_cal C_added hr (by first | decide | omega) (by rfl) pass0 (pa_cons (pe_ix ix_tup (pv 3) pe_int (fun _ _ => rfl)) (pa_cons (pv 5) pa_nil))) pa_nil))))))))))), ?_⟩
  refine ⟨_, rfl, _, rfl, u, v, U, d, rfl, hu, hv, hcl, ?_⟩
  rcases k with ⟨hne, k⟩ | ⟨us, t, rfl, hU, rfl, hg, hz, hnt, k⟩
  · cases h : needTreeP U d with
    | ok e => exact absurd h (hne e)
    | _ => rw [h] at k; exact k
  rw [hnt]
  intro v1 H1 e1 a1
  refine ⟨_, rfl, _, rfl, v, y, t, dp, rfl, hv.mono e1, hy.mono e1, by omega, hdz, ?_⟩
  unfold yardWithP
  unfold leastP at k
  cases hya : yardAt t dp with
  | none =>
    rw [hya] at k
    exact Go.mono k e1
  | some s =>
    rw [hya] at k
    obtain ⟨r, rfl, hs⟩ := yardAt_some hya
    have k : Go A H Q E (match least us r t with | none => .lack | some l => .ok (dR l)) := by rw [unflat_path] at k; exact k
    intro v2 H2 e2 a2
    refine ⟨_, rfl, _, rfl, u, v, us, t, rfl, hu.mono (e1.trans e2), hU, hv.mono (e1.trans e2), hg, hz, fun b H3 e3 hb => ?_⟩
    have e03 := e1.trans (e2.trans e3)
    refine ⟨_, rfl, _, rfl, _, rfl, _, rfl, u, v, y, b, us, t, s, r, rfl, hu.mono e03, hU, hv.mono e03, hg, hz, hb, hy.mono e03, hs, fun v4 H4 e4 a4 => ?_⟩
    have e04 := e03.trans e4
    refine ⟨_, rfl, rfl, _, rfl, ?_⟩
    unfold least at k
    rw [hs] at k
    obtain ⟨ss, sa, un⟩ := s
    cases hh : hd us r t (zer us) with
    | none =>
      rw [hh] at k a4
      cases a4
      rw [decide_eq_true rfl]
      exact iteT (k H4 e04)
    | some row =>
      rw [hh] at k a4
      have a4' : At H4 v4 (dR row) := a4
      have k : Ret H Q (dR (lk us (asked us sa un) (add ss row))) := k
      obtain ⟨p4, rfl, hp4⟩ := a4'.of_row
      rw [decide_eq_false (by intro z; cases z)]
      have gs := good_sub hg hs
      simp only [Good] at gs
      have hl := len_sub hs
      have hkl : un.length ≤ 400 := by
        have := len_kids (cs := un) (p := []) (i := 0)
        rw [ysT, List.length_cons] at hl
        omega
      have hrow := hd_row hU.ps hg (zer_row us) hh
      have a2' := a2.mono (e3.trans e4)
      refine iteF ⟨_, rfl, _, rfl, _, rfl, _, rfl, v2, y, b, us, ss, sa, un, flat r, rfl, a2', hy.mono e04, (hb.mono e4).at hs, gs.2.2, gs.2.1, hU.1, by rw [flat_len]; omega, by omega, fun v5 H5 e5 a5 => ?_⟩
      obtain ⟨p2, w0, w1, p6, ks, rfl, q2, x0, x1, q6, vks⟩ := (a2'.mono e5).tr
      refine ⟨_, rfl, p2, _, 0, _, rfl, rfl, sqT q2, atI_nat (j := 0) rfl, _, rfl, _, _, _, _, rfl, x0, a4'.mono e5, by rw [gs.1.1, hrow.1], by rw [gs.1.1]; have := hU.1; omega, fun v6 H6 e6 a6 => ?_⟩
      refine ⟨u, v5, v6, us, _, _, rfl, hu.mono (e04.trans (e5.trans e6)), a5.mono e6, a6, (asked_row gs.2.2 gs.2.1).1, (gs.1.add hrow).1, hU, fun v7 H7 e7 a7 => ?_⟩
      exact k.go (e04.trans (e5.trans (e6.trans e7))) a7
end
end K26
set_option Elab.async false
set_option linter.all false
set_option maxRecDepth 100000
set_option maxHeartbeats 4000000
namespace K26
open PySem PySem.Spec PyProof.Rows L2 RZ RT
/-! ## parts of tuples -/
section
variable {K : PySem.W.Frag} {H : Hp} {Q : VK} {a b : Addr} {ds es : List PyData}
theorem At.tup_at (h : At H (.ref a) (.tuple ds)) : ∃ xs, H a = some (.tup xs) ∧ AtAll H xs ds := by
  obtain ⟨a', xs, e, h1, h2⟩ := h.of_tup
  cases e
  exact ⟨xs, h1, h2⟩
theorem sl_from {k : Nat} (h : At H (.ref a) (.tuple ds)) (q : Ret H Q (.tuple (ds.drop k))) : rSlA K (.ref a) (some (k : Int)) none H Q := by
  obtain ⟨xs, h1, h2⟩ := h.tup_at
  have hl := h2.len
  have e1 : HT.sIx xs.length 0 (some (k : Int)) = min k xs.length := HT.sIx_nat xs.length 0 k
  refine ⟨a, xs, rfl, sqT h1, fun z => ?_, fun _ p hp => ?_⟩
  · have z1 := z.1
    rw [e1] at z1
    have e : ds.drop k = ds := by
      by_cases hk : k = 0
      · rw [hk, List.drop_zero]
      · have : ds.length = 0 := by omega
        rw [List.eq_nil_of_length_eq_zero this, List.drop_nil]
    rw [e] at q
    exact q.go (Same.refl _) h
  · refine q.go (same_new hp) (.tup upd_same ?_)
    have e : cutV xs (some (k : Int)) none = xs.drop k := by
      unfold cutV
      rw [e1, HT.sIx_none]
      by_cases hk : k ≤ xs.length
      · rw [Nat.min_eq_left hk]
        exact List.take_of_length_le (by rw [List.length_drop]; omega)
      · rw [Nat.min_eq_right (by omega), List.drop_length, List.drop_of_length_le (by omega), List.take_nil]
    rw [e]
    exact (h2.mono (same_new hp)).drop k
theorem sl_to {k : Nat} (h : At H (.ref a) (.tuple ds)) (q : Ret H Q (.tuple (ds.take k))) : rSlA K (.ref a) none (some (k : Int)) H Q := by
  obtain ⟨xs, h1, h2⟩ := h.tup_at
  have hl := h2.len
  have e1 : HT.sIx xs.length xs.length (some (k : Int)) = min k xs.length := HT.sIx_nat xs.length xs.length k
  refine ⟨a, xs, rfl, sqT h1, fun z => ?_, fun _ p hp => ?_⟩
  · have z1 := z.2
    rw [e1] at z1
    rw [List.take_of_length_le (show ds.length ≤ k by omega)] at q
    exact q.go (Same.refl _) h
  · refine q.go (same_new hp) (.tup upd_same ?_)
    have e : cutV xs none (some (k : Int)) = xs.take k := by
      unfold cutV
      rw [e1, HT.sIx_none, List.drop_zero, Nat.sub_zero]
      by_cases hk : k ≤ xs.length
      · rw [Nat.min_eq_left hk]
      · rw [Nat.min_eq_right (by omega), List.take_of_length_le (Nat.le_refl _), List.take_of_length_le (by omega)]
    rw [e]
    exact (h2.mono (same_new hp)).take k
theorem cat_tup (ha : At H (.ref a) (.tuple ds)) (hb : At H (.ref b) (.tuple es)) (hz : ds.length + es.length ≤ 100000) (k : Ret H Q (.tuple (ds ++ es))) : rCatA K (.ref a) (.ref b) H Q := by
  obtain ⟨xs, h1, h2⟩ := ha.tup_at
  obtain ⟨ys, h3, h4⟩ := hb.tup_at
  have l1 := h2.len
  have l2 := h4.len
  refine ⟨a, b, _, _, rfl, rfl, sqT h1, sqT h3, by rw [l1, l2]; exact small_ hz, fun e => ?_, fun _ e => ?_, fun _ _ t ht => ?_⟩
  · subst e
    have : ds = [] := List.eq_nil_of_length_eq_zero l1.symm
    subst this
    exact k.go (Same.refl _) hb
  · subst e
    have : es = [] := List.eq_nil_of_length_eq_zero l2.symm
    subst this
    rw [List.append_nil] at k
    exact k.go (Same.refl _) ha
  · exact k.go (same_new ht) (.tup upd_same ((h2.mono (same_new ht)).app (h4.mono (same_new ht))))
end
/-! ## put_yard, stocked -/
def putT : List Nat → Tr → Tr → Tr
  | [], z, _ => z
  | i :: r, z, .nd s a un => .nd s a (chg un i (putT r z))
theorem trDs_chg {f : Tr → Tr} : ∀ {cs : List Tr} {i : Nat} {c : Tr}, cs[i]? = some c → trDs (chg cs i f) = (trDs cs).take i ++ [trD (f c)] ++ (trDs cs).drop (i + 1)
  | [], _, _, h => by simp at h
  | d :: cs, 0, c, h => by
    simp only [List.getElem?_cons_zero, Option.some.injEq] at h
    subst h
    simp [chg, trDs]
  | d :: cs, i + 1, c, h => by
    simp only [chg, trDs, trDs_chg (cs := cs) (i := i) (c := c) (by simpa using h)]
    simp
theorem chg_congr {f g : Tr → Tr} : ∀ {cs : List Tr} {i : Nat}, (∀ c, cs[i]? = some c → f c = g c) → chg cs i f = chg cs i g
  | [], _, _ => rfl
  | c :: cs, 0, h => by simp only [chg, h c rfl]
  | c :: cs, i + 1, h => by
    simp only [chg]
    rw [chg_congr (cs := cs) (i := i) fun d hd => h d (by simpa using hd)]
theorem putT_stk {x s a : List Int} {un : List Tr} : ∀ {r : List Nat} {t : Tr}, sub? r t = some (.nd s a un) → putT r (.nd (add s x) a un) t = stk x r t
  | [], t, h => by
    simp only [sub?, Option.some.injEq] at h
    subst h
    rfl
  | i :: r, .nd s0 a0 un0, h => by
    simp only [sub?] at h
    split at h
    · cases h
    · rename_i c hc
      simp only [putT, stk]
      rw [chg_congr fun d hd => ?_]
      rw [hc] at hd
      cases hd
      exact putT_stk h
def spPut (n : Nat) : Sp := fun vs H Q _ => ∃ (v y x : V) (t z s : Tr) (r : List Nat), vs = [v, y, x] ∧ At H v (trD t) ∧ At H y (dR (flat r)) ∧ At H x (trD z) ∧ r.length < n ∧ sub? r t = some s ∧ (ysT t []).length ≤ 400 ∧ Ret H Q (trD (putT r z t))
def spStocked (A : XA) : Sp := fun vs H Q _ => ∃ (u v y x : V) (us : List Int) (t : Tr) (s a : List Int) (un : List Tr) (r : List Nat) (row : List Int), vs = [u, v, y, x] ∧ At H u (dR us) ∧ Us us ∧ At H v (trD t) ∧ Good us t ∧ (ysT t []).length ≤ 8 ∧ needTreeP (dR us) (trD t) = .ok (trD t) ∧
  At H y (dR (flat r)) ∧ sub? r t = some (.nd s a un) ∧ At H x (dR row) ∧ rowP us.length (dR row) = true ∧ Ret H Q (trD (stk row r t))
section
variable {P : Program} {w : World} {K : PySem.W.Frag} {mg : Str → Option Value} {base : Heap} {f : Addr} {fd : FuncData} {A : XA}
theorem sc_put_yard : FnScope ["tree", "path", "yard", "index", "under", "changed"] ["tree", "path", "yard"] (defScope (top 41)) := ⟨rfl, rfl, rfl, by decide +kernel, rfl, by decide +kernel, by decide +kernel⟩
theorem ok_put_yard (B : Bi mg) (F : FnP K "put_yard" (top 41) f fd) (hm : mg "put_yard" = some (.ref f)) (hk : PySem.W.keepIn K (.ref f) = true) (hb : Binds K fd ["tree", "path", "yard"] []) :
    ∀ n, FnOk P w K mg base CX0 (n + 1) f fd ["tree", "path", "yard"] (spPut n)
  | 0 => ok0 F sc_put_yard (fun vs H Q E h => by obtain ⟨_, _, _, _, _, _, _, rfl, _⟩ := h; rfl) (fun cdv A' outer s0 H vs Q E hr h => by
    obtain ⟨_, _, _, _, _, _, _, rfl, _, _, _, h, _⟩ := h
    exact absurd h (Nat.not_lt_zero _))
  | n + 1 => by
    have C_put_yard : Cal P w K mg base CX0 (n + 1) "put_yard" ["tree", "path", "yard"] (spPut n) := ⟨f, fd, ok_put_yard B F hm hk hb n, hm, hk, hb⟩
    refine ok0 F sc_put_yard (fun vs H Q E h => by obtain ⟨_, _, _, _, _, _, _, rfl, _⟩ := h; rfl) (fun cdv A' outer s0 H vs Q E hr h => ?_)
    obtain ⟨v, y, x, t, z, s, r, rfl, hv, hy, hx, hn, hs, hz, k⟩ := h
    refine ⟨(tSeq (tIfS (tTest (tOp (rEqD K) (tVar 1) (tTup tNil))) (tRet (tVar 2)) tNext)
  (tSeq (tAsg (tOp (rIxT K) (tVar 1) (tC (.int 1))) (gName 3))
  (tSeq (tAsg (tOp (rIxT K) (tVar 0) (tC (.int 2))) (gName 4))
  (tSeq (tAsg (tCall (spPut n) [] E0 (tCons (tOp (rIxT K) (tVar 4) (tVar 3)) (tCons (tSlF K (tVar 1) (tC (.int 2))) (tCons (tVar 2) tNil)))) (gName 5))
  (tRet (tTup (tCons (tOp (rIxT K) (tVar 0) (tC (.int 0))) (tCons (tOp (rIxT K) (tVar 0) (tC (.int 1))) (tCons (tOp (rCatA K) (tOp (rCatA K) (tSlT K (tVar 4) (tVar 3)) (tTup (tCons (tVar 5) tNil))) (tSlF K (tVar 4) (tOp (rI0 fun i j => .int (i + j)) (tVar 3) (tC (.int 1))))) tNil))))))))),
    (pss_cons (ps_if (pt_cmpR (op_eqD hr.units) (pv 1) (pe_tup pa_nil) (nomark _))
  (pss_one (ps_ret (pv 2)))
  pss_nil)
  (pss_cons (ps_set (i := 3) sc_put_yard.nd rfl (by first | exact Or.inl rfl | exact Or.inr rfl) (pe_ix ix_tup (pv 1) pe_int (fun _ _ => rfl)))
  (pss_cons (ps_set (i := 4) sc_put_yard.nd rfl (by first | exact Or.inl rfl | exact Or.inr rfl) (pe_ix ix_tup (pv 0) pe_int (fun _ _ => rfl)))
  (pss_cons (ps_set (i := 5) sc_put_yard.nd rfl (by first | exact Or.inl rfl | exact Or.inr rfl) (pe_cal C_put_yard hr (by first | decide | omega) (by rfl) pass0 (pa_cons (pe_ix ix_tup (pv 4) (pv 3) (fun _ _ => rfl)) (pa_cons (pe_slF (pv 1) pe_int) (pa_cons (pv 2) pa_nil)))))
  (pss_one (ps_ret (pe_tup (pa_cons (pe_ix ix_tup (pv 0) pe_int (fun _ _ => rfl)) (pa_cons (pe_ix ix_tup (pv 0) pe_int (fun _ _ => rfl)) (pa_cons (pe_op op_catA (pe_op op_catA (pe_slT (pv 4) (pv 3)) (pe_tup (pa_cons (pv 5) pa_nil))) (pe_slF (pv 4) (pe_op op_add (pv 3) pe_int))) pa_nil)))))))))), ?_⟩
    refine ⟨_, rfl, small_ (by simp), fun t1 ht1 => ?_⟩
    have n1 := same_new (o := .tup []) ht1
    refine ⟨_, _, (hy.mono n1).dp, (At.row (l := []) upd_same).dp, shaped_dR _, shaped_dR _, _, rfl, ?_⟩
    rw [eqv_dR]
    cases r with
    | nil => exact iteT ⟨_, rfl, k.go n1 (hx.mono n1)⟩
    | cons i r =>
      rw [show (flat (i :: r) == []) = false from rfl]
      obtain ⟨ss, sa, un⟩ := t
      obtain ⟨c, hc, hsc⟩ : ∃ c, un[i]? = some c ∧ sub? r c = some s := by
        simp only [sub?] at hs
        split at hs
        · cases hs
        · rename_i d hd
          exact ⟨d, hd, hs⟩
      obtain ⟨py, rfl, hpy⟩ := hy.of_row
      obtain ⟨p4, w0, w1, p6, ks, rfl, q4, v0, v1, q6, vks⟩ := hv.tr
      have hlc : (ysT c []).length ≤ 400 ∧ un.length ≤ 400 := by
        have h1 := len_child (p := []) (i := 0) hc
        have h2 := len_kids (cs := un) (p := []) (i := 0)
        rw [ysT, List.length_cons] at hz
        omega
      have hc' : (trDs un)[i]? = some (trD c) := by rw [trDs_map, List.getElem?_map, hc]; rfl
      obtain ⟨z4, ez, az⟩ := vks.get hc'
      refine iteF ⟨_, rfl, py, _, 1, .int (i : Nat), rfl, rfl, sqT (n1 _ _ hpy), atI_nat (j := 1) rfl, ?_⟩
      refine ⟨_, rfl, p4, _, 2, _, rfl, rfl, sqT (n1 _ _ q4), atI_nat (j := 2) rfl, ?_⟩
      refine ⟨_, rfl, _, rfl, p6, _, _, z4, rfl, rfl, sqT (n1 _ _ q6), atI_nat ez, ?_⟩
      refine ⟨_, rfl, 2, rfl, sl_from (k := 2) (hy.mono n1) fun vp H3 e3 ap => ?_⟩
      have e13 := n1.trans e3
      refine ⟨_, rfl, z4, vp, x, c, z, s, r, rfl, az.mono e13, ap, hx.mono e13, by simp at hn; omega, hsc, hlc.1, fun v4 H4 e4 a4 => ?_⟩
      have e14 := e13.trans e4
      refine ⟨_, rfl, p4, _, 0, _, rfl, rfl, sqT (e14 _ _ q4), atI_nat (j := 0) rfl, _, rfl, p4, _, 1, _, rfl, rfl, sqT (e14 _ _ q4), atI_nat (j := 1) rfl, ?_⟩
      have a6 : At H (.ref p6) (.tuple (trDs un)) := .tup q6 vks
      refine ⟨_, rfl, _, rfl, _, rfl, sl_to (a6.mono e14) fun v5 H5 e5 a5 => ?_⟩
      refine ⟨_, rfl, small_ (by simp), fun t6 ht6 => ?_⟩
      have n6 := same_new (o := .tup [v4]) ht6
      obtain ⟨p5, _, rfl, _⟩ := a5.of_tup
      have ltr : (trDs un).length = un.length := by rw [trDs_map, List.length_map]
      refine cat_tup (a5.mono n6) (At.tup (ds := [trD (putT r z c)]) upd_same (.cons (a4.mono (e5.trans n6)) .nil)) (by rw [List.length_take]; simp; omega) fun v7 H7 e7 a7 => ?_
      have e17 := e14.trans (e5.trans (n6.trans e7))
      refine ⟨_, rfl, _, rfl, _, 1, rfl, rfl, _, rfl, ?_⟩
      refine sl_from (k := i + 1) (a6.mono e17) fun v8 H8 e8 a8 => ?_
      obtain ⟨p7, _, rfl, _⟩ := a7.of_tup
      obtain ⟨p8, _, rfl, _⟩ := a8.of_tup
      refine cat_tup (a7.mono e8) a8 (by simp; omega) fun v9 H9 e9 a9 => ?_
      have e19 := e17.trans (e8.trans e9)
      refine ⟨small_ (by simp), fun t9 ht9 => ?_⟩
      have n9 := same_new (o := .tup [w0, w1, v9]) ht9
      refine k.go (e19.trans n9) ?_
      simp only [putT, trD]
      rw [trDs_chg hc]
      exact .tup upd_same (.cons (v0.mono (e19.trans n9)) (.cons (v1.mono (e19.trans n9)) (.cons (a9.mono n9) .nil)))
theorem sc_stocked : FnScope ["units", "tree", "path", "row", "here"] ["units", "tree", "path", "row"] (defScope (top 42)) := ⟨rfl, rfl, rfl, by decide +kernel, rfl, by decide +kernel, by decide +kernel⟩
theorem ok_stocked (B : Bi mg) (C_need_tree : Cal P w K mg base (L2.CX P w) 4 "need_tree" ["units", "value"] (spNeedTree A)) (C_yard_with : Cal P w K mg base (L2.CX P w) 3 "yard_with" ["tree", "path"] (spYardWith A)) (C_need_row : Cal P w K mg base (L2.CX P w) 4 "need_row" ["units", "value"] (spNeedRow A))
    (C_put_yard : Cal P w K mg base CX0 10 "put_yard" ["tree", "path", "yard"] (spPut 9)) (C_added : Cal P w K mg base CX0 1 "added" ["one", "other"] spAdd) (F : FnP K "stocked" (top 42) f fd) :
    FnOk P w K mg base (L2.CX P w) 11 f fd ["units", "tree", "path", "row"] (spStocked A) := by
  refine okX F sc_stocked (fun vs H Q E h => by obtain ⟨_, _, _, _, _, _, _, _, _, _, _, rfl, _⟩ := h; rfl) (fun cdv A' outer s0 H vs Q E hr h => ?_)
  obtain ⟨u, v, y, x, us, t, s, a, un, r, row, rfl, hu, hU, hv, hg, hz, hnt, hy, hs, hx, hrow, k⟩ := h
  refine ⟨(tSeq (tDrop (tCall (spNeedTree A) [] E (tCons (tVar 0) (tCons (tVar 1) tNil))))
  (tSeq (tAsg (tCall (spYardWith A) [] E (tCons (tVar 1) (tCons (tVar 2) tNil))) (gName 4))
  (tSeq (tDrop (tCall (spNeedRow A) [] E (tCons (tVar 0) (tCons (tVar 3) tNil))))
  (tRet (tCall (spPut 9) [] E0 (tCons (tVar 1) (tCons (tVar 2) (tCons (tTup (tCons (tCall spAdd [] E0 (tCons (tOp (rIxT K) (tVar 4) (tC (.int 0))) (tCons (tVar 3) tNil))) (tCons (tOp (rIxT K) (tVar 4) (tC (.int 1))) (tCons (tOp (rIxT K) (tVar 4) (tC (.int 2))) tNil)))) tNil)))))))),
    (pss_cons (ps_expr (pe_cal C_need_tree hr (by first | decide | omega) (by rfl) (passes_call (takes_of rfl rfl rfl rfl) (fun _ _ _ _ h => h)) (pa_cons (pv 0) (pa_cons (pv 1) pa_nil))))
  (pss_cons (ps_set (i := 4) sc_stocked.nd rfl (by first | exact Or.inl rfl | exact Or.inr rfl) (pe_cal C_yard_with hr (by first | decide | omega) (by rfl) (passes_call (takes_of rfl rfl rfl rfl) (fun _ _ _ _ h => h)) (pa_cons (pv 1) (pa_cons (pv 2) pa_nil))))
  (pss_cons (ps_expr (pe_cal C_need_row hr (by first | decide | omega) (by rfl) (passes_call (takes_of rfl rfl rfl rfl) (fun _ _ _ _ h => h)) (pa_cons (pv 0) (pa_cons (pv 3) pa_nil))))
  (pss_one (ps_ret (pe_cal C_put_yard hr (by first | decide | omega) (by rfl) pass0 (pa_cons (pv 1) (pa_cons (pv 2) (pa_cons (pe_tup (pa_cons (pe_cal C_added hr (by first | decide | omega) (by rfl) pass0 (pa_cons (pe_ix ix_tup (pv 4) pe_int (fun _ _ => rfl)) (pa_cons (pv 3) pa_nil))) (pa_cons (pe_ix ix_tup (pv 4) pe_int (fun _ _ => rfl)) (pa_cons (pe_ix ix_tup (pv 4) pe_int (fun _ _ => rfl)) pa_nil)))) pa_nil))))))))), ?_⟩
  refine ⟨_, rfl, _, rfl, u, v, dR us, trD t, rfl, hu, hv, canLay_trD t, ?_⟩
  rw [hnt]
  intro v1 H1 e1 a1
  have hlr := len_sub hs
  refine ⟨_, rfl, _, rfl, v, y, t, dR (flat r), rfl, hv.mono e1, hy.mono e1, by omega, ?_, ?_⟩
  · intro ds e
    cases e
    rw [List.length_map, flat_len]
    omega
  unfold yardWithP
  rw [yardAt_of hs]
  intro v2 H2 e2 a2
  have e12 := e1.trans e2
  refine ⟨_, rfl, _, rfl, u, x, us, dR row, rfl, hu.mono e12, hU, hx.mono e12, ?_⟩
  rw [if_pos hrow]
  intro v3 H3 e3 a3
  have e13 := e12.trans e3
  obtain ⟨p4, w0, w1, p6, ks, rfl, q4, v0, v1', q6, vks⟩ := a2.tr
  have gs := good_sub hg hs
  simp only [Good] at gs
  have hrl : row.length = us.length + 1 := by
    have h : (decide ((row.map PyData.int).length = us.length + 1) && _) = true := hrow
    rw [Bool.and_eq_true, decide_eq_true_eq, List.length_map] at h
    exact h.1
  have hz3 := hU.1
  refine ⟨_, rfl, _, rfl, _, rfl, p4, _, 0, _, rfl, rfl, sqT (e3 _ _ q4), atI_nat (j := 0) rfl, _, rfl, _, _, s, row, rfl, v0.mono e3, hx.mono e13, by rw [gs.1.1, hrl], by rw [gs.1.1]; omega, fun v5 H5 e5 a5 => ?_⟩
  have e35 := e3.trans e5
  refine ⟨_, rfl, p4, _, 1, _, rfl, rfl, sqT (e35 _ _ q4), atI_nat (j := 1) rfl, _, rfl, p4, _, 2, _, rfl, rfl, sqT (e35 _ _ q4), atI_nat (j := 2) rfl, small_ (by simp), fun t6 ht6 => ?_⟩
  have n6 := same_new (o := .tup [v5, w1, .ref p6]) ht6
  have e36 := e35.trans n6
  refine ⟨v, y, .ref t6, t, .nd (add s row) a un, _, r, rfl, hv.mono (e12.trans e36), hy.mono (e12.trans e36), ?_, by omega, hs, by omega, fun v7 H7 e7 a7 => ?_⟩
  · rw [trD]
    exact .tup upd_same (.cons (a5.mono n6) (.cons (v1'.mono e36) (.cons (.tup (e36 _ _ q6) (vks.mono e36)) .nil)))
  · rw [putT_stk hs] at a7
    exact k.go (e12.trans (e36.trans e7)) a7
end
end K26
set_option Elab.async false
set_option linter.all false
set_option maxRecDepth 100000
set_option maxHeartbeats 4000000
namespace K26
open PySem PySem.Spec PyProof.Rows L2 RZ RT
/-! ## the law's own: numbers -/
def spMix : Sp := fun vs H Q _ => ∃ c k : Int, vs = [.int c, .int k] ∧ 0 ≤ k ∧ k ≤ 100000 ∧ ∀ v : Int, 0 ≤ v → v < 2147483648 → Q (.int v) H
/-- what one of each small unit makes in the smallest, whole units first -/
def sizes : List Int → List Int
  | [] => [1]
  | u :: us => ((sizes us).headD 0 * u) :: sizes us
theorem sizes_len : ∀ us : List Int, (sizes us).length = us.length + 1
  | [] => rfl
  | u :: us => by simp [sizes, sizes_len us]
theorem sizes_ne (us : List Int) : sizes us ≠ [] := by cases us <;> simp [sizes]
def spSizes : Sp := fun vs H Q _ => ∃ (v : V) (us : List Int), vs = [v] ∧ At H v (dR us) ∧ Us us ∧ Ret H Q (dR (sizes us))
theorem headD_get {l : List Int} (h : l ≠ []) : (l.map V.int)[0]? = some (.int (l.headD 0)) := by
  cases l with
  | nil => exact absurd rfl h
  | cons x xs => rfl
section
variable {P : Program} {w : World} {K : PySem.W.Frag} {mg : Str → Option Value} {base : Heap} {f : Addr} {fd : FuncData} {A : XA}
theorem sc_law_mixed : FnScope ["_law_cell", "_law_k"] ["_law_cell", "_law_k"] (defScope (top 44)) := ⟨rfl, rfl, rfl, by decide +kernel, rfl, by decide +kernel, by decide +kernel⟩
theorem ok_law_mixed (B : Bi mg) (F : FnP K "_law_mixed" (top 44) f fd) : FnOk P w K mg base CX0 1 f fd ["_law_cell", "_law_k"] spMix := by
  refine ok0 F sc_law_mixed (fun vs H Q E h => by obtain ⟨_, _, rfl, _⟩ := h; rfl) (fun cdv A outer s H vs Q E hr h => ?_)
  obtain ⟨c, k, rfl, h0, h1, q⟩ := h
  refine ⟨(tSeq (tAsg (tOp (rI (fun _ j => 0 < j) fun i j => .int (i % j)) (tCB rIntQ (tCons (tVar 0) tNil)) (tC (.int 2147483647))) (gName 0))
  (tRet (tOp (rI (fun _ j => 0 < j) fun i j => .int (i % j)) (tOp (rI CMul fun i j => .int (i * j)) (tOp (rI (fun _ j => 0 < j) fun i j => .int (i % j)) (tOp (rI0 fun i j => .int (i + j)) (tOp (rI0 fun i j => .int (i + j)) (tOp (rI CMul fun i j => .int (i * j)) (tVar 0) (tOp (rI0 fun i j => .int (i + j)) (tC (.int 48271)) (tOp (rI CMul fun i j => .int (i * j)) (tOp (rI CMul fun i j => .int (i * j)) (tC (.int 2)) (tVar 1)) (tVar 1)))) (tOp (rI CMul fun i j => .int (i * j)) (tC (.int 69621)) (tVar 1))) (tC (.int 11))) (tC (.int 2147483647))) (tC (.int 69621))) (tC (.int 2147483629))))),
    (pss_cons (ps_set (i := 0) sc_law_mixed.nd rfl (by first | exact Or.inl rfl | exact Or.inr rfl) (pe_op op_mod (pe_callTy call_intQ (by rfl) B.int (by decide +kernel) (pa_cons (pv 0) pa_nil)) pe_int))
  (pss_one (ps_ret (pe_op op_mod (pe_op op_mul (pe_op op_mod (pe_op op_add (pe_op op_add (pe_op op_mul (pv 0) (pe_op op_add pe_int (pe_op op_mul (pe_op op_mul pe_int (pv 1)) (pv 1)))) (pe_op op_mul pe_int (pv 1))) pe_int) pe_int) pe_int) pe_int)))), ?_⟩
  refine ⟨_, rfl, c, rfl, _, _, rfl, rfl, (by show (0 : Int) < _; decide), ?_⟩
  have hc0 := Int.emod_nonneg c (show (2147483647 : Int) ≠ 0 by decide)
  have hc1 := Int.emod_lt_of_pos c (show (0 : Int) < 2147483647 by decide)
  refine ⟨_, rfl, _, rfl, _, _, rfl, rfl, .inl ⟨by omega, by omega⟩, _, rfl, _, _, rfl, rfl, .inr ⟨by omega, by omega⟩, _, _, rfl, rfl, _, _, rfl, rfl, .inl ⟨by omega, by omega⟩, ?_⟩
  refine ⟨_, rfl, _, _, rfl, rfl, .inl ⟨by omega, by omega⟩, _, _, rfl, rfl, _, _, rfl, rfl, _, _, rfl, rfl, (by show (0 : Int) < _; decide), _, _, rfl, rfl, .inr ⟨by omega, by omega⟩, _, _, rfl, rfl, (by show (0 : Int) < _; decide), ?_⟩
  refine q _ (Int.emod_nonneg _ (by decide)) ?_
  have := Int.emod_lt_of_pos ((c % 2147483647 * (48271 + 2 * k * k) + 69621 * k + 11) % 2147483647 * 69621) (show (0 : Int) < 2147483629 by decide)
  omega
theorem sc_law_sizes : FnScope ["_law_units_so", "_law_found", "_law_ratio"] ["_law_units_so"] (defScope (top 49)) := ⟨rfl, rfl, rfl, by decide +kernel, rfl, by decide +kernel, by decide +kernel⟩
theorem ok_law_sizes (B : Bi mg) (F : FnP K "_law_sizes" (top 49) f fd) : FnOk P w K mg base CX0 1 f fd ["_law_units_so"] spSizes := by
  refine ok0 F sc_law_sizes (fun vs H Q E h => by obtain ⟨_, _, rfl, _⟩ := h; rfl) (fun cdv A outer s H vs Q E hr h => ?_)
  obtain ⟨v, us, rfl, hv, hU, k⟩ := h
  obtain ⟨p, rfl, hp⟩ := hv.of_row
  refine ⟨(tSeq (tAsg (tTup (tCons (tC (.int 1)) tNil)) (gName 1))
  (tSeq (tFor (iTup K (tRevT K (tVar 0))) (gName 2) (tAsg (tOp (rCatA K) (tTup (tCons (tOp (rI CMul fun i j => .int (i * j)) (tOp (rIxT K) (tVar 1) (tC (.int 0))) (tVar 2)) tNil)) (tVar 1)) (gName 1)))
  (tRet (tVar 1)))),
    (pss_cons (ps_set (i := 1) sc_law_sizes.nd rfl (by first | exact Or.inl rfl | exact Or.inr rfl) (pe_tup (pa_cons pe_int pa_nil)))
  (pss_cons (ps_for PassesOwn.never rfl (pi_tup (pe_revT (pv 0))) (pg_name (i := 2) sc_law_sizes.nd rfl (by first | exact Or.inl rfl | exact Or.inr rfl))
  (pss_one (ps_set (i := 1) sc_law_sizes.nd rfl (by first | exact Or.inl rfl | exact Or.inr rfl) (pe_op op_catA (pe_tup (pa_cons (pe_op op_mul (pe_ix ix_tup (pv 1) pe_int (fun _ _ => rfl)) (pv 2)) pa_nil)) (pv 1)))))
  (pss_one (ps_ret (pv 1))))), ?_⟩
  have hz3 := hU.1
  refine ⟨small_ (by simp), fun t1 ht1 => ?_⟩
  have n1 := same_new (o := .tup [.int 1]) ht1
  refine ⟨_, rfl, p, _, rfl, sqT (n1 _ _ hp), fun t2 ht2 => ?_⟩
  have n2 := same_new (o := .tup (us.map V.int).reverse) ht2
  refine ⟨t2, rfl, ⟨_, sqT upd_same⟩, ?_⟩
  have el : (us.map V.int).reverse.length = us.length := by simp
  refine for_it (walk_tup (xs := (us.map V.int).reverse)) (fun i σ H' => ∃ x1 y2, σ = [some (.ref p), some x1, y2] ∧ Same H H' ∧ H' t2 = some (.tup (us.map V.int).reverse) ∧ At H' x1 (dR (sizes (us.drop (us.length - i)))))
    ⟨_, none, rfl, n1.trans n2, upd_same, At.row (l := sizes (us.drop (us.length - 0))) ?_⟩ (fun i σ H' _ h => ?_) ?_ ?_
  · rw [Nat.sub_zero, List.drop_length]
    exact n2 _ _ upd_same
  · obtain ⟨_, _, _, _, h, _⟩ := h
    exact sqT h
  · rintro i x σ H1 H2 hi ⟨x1, y2, rfl, e1, h2, hx1⟩ hY
    obtain ⟨rfl, hx⟩ := hY
    rw [el] at hi
    have hj : us[us.length - 1 - i]? = some (us[us.length - 1 - i]'(by omega)) := List.getElem?_eq_getElem (by omega)
    have hxe : x = .int (us[us.length - 1 - i]'(by omega)) := by
      rw [List.getElem?_reverse (by simpa using hi), List.length_map, List.getElem?_map, hj] at hx
      exact (Option.some.inj hx).symm
    subst hxe
    have hu := hU.2 _ (List.mem_of_getElem? hj)
    have ed : us.drop (us.length - (i + 1)) = us[us.length - 1 - i]'(by omega) :: us.drop (us.length - i) := by
      rw [show us.length - (i + 1) = us.length - 1 - i by omega, List.drop_eq_getElem_cons (by omega), show us.length - 1 - i + 1 = us.length - i by omega]
    obtain ⟨p1, rfl, hp1⟩ := hx1.of_row
    refine ⟨_, rfl, p1, _, 0, _, rfl, rfl, sqT hp1, atI_nat (j := 0) (headD_get (sizes_ne _)), _, rfl, _, _, rfl, rfl, .inr ⟨by omega, by omega⟩, small_ (by simp), fun t3 ht3 => ?_⟩
    refine ⟨_, rfl, ?_⟩
    have n3 := same_new (o := .tup [.int ((sizes (us.drop (us.length - i))).headD 0 * us[us.length - 1 - i]'(by omega))]) ht3
    refine cat_row (p := [(sizes (us.drop (us.length - i))).headD 0 * us[us.length - 1 - i]'(by omega)]) (At.row upd_same) (hx1.mono n3) ?_ fun v4 H4 e4 a4 => ?_
    · rw [sizes_len, List.length_drop]
      simp
      omega
    · refine ⟨v4, _, rfl, e1.trans (n3.trans e4), (n3.trans e4) _ _ h2, ?_⟩
      rw [ed]
      exact a4
  · rintro σ H1 ⟨x1, y2, rfl, e1, h2, hx1⟩
    rw [el, Nat.sub_self, List.drop_zero] at hx1
    exact ⟨_, rfl, k.go e1 hx1⟩
theorem sc_law_beside : FnScope ["_law_one", "_law_other", "_law_near", "_law_far"] ["_law_one", "_law_other"] (defScope (top 51)) := ⟨rfl, rfl, rfl, by decide +kernel, rfl, by decide +kernel, by decide +kernel⟩
theorem ok_law_beside (B : Bi mg) (F : FnP K "_law_beside" (top 51) f fd) : FnOk P w K mg base CX0 1 f fd ["_law_one", "_law_other"] spAdd := by
  refine ok0 F sc_law_beside (fun vs H Q E h => by obtain ⟨_, _, _, _, rfl, _⟩ := h; rfl) (fun cdv A outer s H vs Q E hr h => ?_)
  obtain ⟨_, _, a, b, rfl, ha, hb, hl, hz, k⟩ := h
  obtain ⟨p, rfl, hp⟩ := ha.of_row
  obtain ⟨q, rfl, hq⟩ := hb.of_row
  refine ⟨(tRet (tCB (rTupQ K) (tCons (tLc (iZipA K (tCons (tVar 0) (tCons (tVar 1) tNil))) (gTup K 2 (gCons (gName 2) (gCons (gName 3) gNil))) tYes (tOp (rI0 fun i j => .int (i + j)) (tVar 2) (tVar 3)) [2, 3]) tNil))),
    (pss_one (ps_ret (pe_callTy call_tupQ (by rfl) B.tuple (by decide +kernel) (pa_cons (pe_lc (own := [("_law_near", 2), ("_law_far", 3)]) (g := (gTup K 2 (gCons (gName 2) (gCons (gName 3) gNil)))) (tt := tYes) (te := (tOp (rI0 fun i j => .int (i + j)) (tVar 2) (tVar 3))) rfl sc_law_beside.nd (pi_zipA (by rfl) B.zip (pa_cons (pv 0) (pa_cons (pv 1) pa_nil))) (blkOk_by (N := ["_law_one", "_law_other", "_law_near", "_law_far"]) (sc := defScope (top 51)) (by decide +kernel)) (fun _ _ _ _ _ => (pg_tup rfl (pgs_cons (pg_name (i := 2) sc_law_beside.nd rfl (by first | exact Or.inl rfl | exact Or.inr rfl)) (pgs_cons (pg_name (i := 3) sc_law_beside.nd rfl (by first | exact Or.inl rfl | exact Or.inr rfl)) pgs_nil)))) (fun _ _ _ _ _ => pts_nil) (fun _ _ _ _ _ => (pe_op op_add (pv 2) (pv 3)))) pa_nil)))), ?_⟩
  refine ⟨_, rfl, _, rfl, p, q, _, _, rfl, .inr ⟨sqT hp, sqT hq, fun D hD => ?_⟩⟩
  refine rd_zip (fun i => .int ((add a b).getD i 0)) hp hq (by simp [hl]) (by simp; omega) hD (fun _ _ => rfl) ?_ ?_
  · intro m x y H2 Q2 ex ey e2 hQ
    obtain ⟨x, e3, rfl⟩ := getI ex
    obtain ⟨y, e4, rfl⟩ := getI ey
    refine ⟨_, rfl, _, rfl, x, y, rfl, rfl, ?_⟩
    have e := add_get e3 e4
    rw [List.getD_eq_getElem?_getD, e] at hQ
    exact hQ
  · intro H2 e2 hD2
    refine ⟨D, _, rfl, .inl ⟨sqL hD2, fun l hl2 => k.go (e2.trans (same_new hl2)) ?_⟩⟩
    refine At.row (l := add a b) ?_
    rw [upd_same, List.length_map, show a.length = (add a b).length by rw [add_len hl, hl], range_map]
theorem sc_law_without : FnScope ["_law_row_here", "_law_order", "_law_near", "_law_far"] ["_law_row_here", "_law_order"] (defScope (top 52)) := ⟨rfl, rfl, rfl, by decide +kernel, rfl, by decide +kernel, by decide +kernel⟩
theorem ok_law_without (B : Bi mg) (F : FnP K "_law_without" (top 52) f fd) : FnOk P w K mg base CX0 1 f fd ["_law_row_here", "_law_order"] spSub := by
  refine ok0 F sc_law_without (fun vs H Q E h => by obtain ⟨_, _, _, _, rfl, _⟩ := h; rfl) (fun cdv A outer s H vs Q E hr h => ?_)
  obtain ⟨_, _, a, b, rfl, ha, hb, hl, hz, k⟩ := h
  obtain ⟨p, rfl, hp⟩ := ha.of_row
  obtain ⟨q, rfl, hq⟩ := hb.of_row
  refine ⟨(tRet (tCB (rTupQ K) (tCons (tLc (iZipA K (tCons (tVar 0) (tCons (tVar 1) tNil))) (gTup K 2 (gCons (gName 2) (gCons (gName 3) gNil))) tYes (tOp (rI0 fun i j => .int (i - j)) (tVar 2) (tVar 3)) [2, 3]) tNil))),
    (pss_one (ps_ret (pe_callTy call_tupQ (by rfl) B.tuple (by decide +kernel) (pa_cons (pe_lc (own := [("_law_near", 2), ("_law_far", 3)]) (g := (gTup K 2 (gCons (gName 2) (gCons (gName 3) gNil)))) (tt := tYes) (te := (tOp (rI0 fun i j => .int (i - j)) (tVar 2) (tVar 3))) rfl sc_law_without.nd (pi_zipA (by rfl) B.zip (pa_cons (pv 0) (pa_cons (pv 1) pa_nil))) (blkOk_by (N := ["_law_row_here", "_law_order", "_law_near", "_law_far"]) (sc := defScope (top 52)) (by decide +kernel)) (fun _ _ _ _ _ => (pg_tup rfl (pgs_cons (pg_name (i := 2) sc_law_without.nd rfl (by first | exact Or.inl rfl | exact Or.inr rfl)) (pgs_cons (pg_name (i := 3) sc_law_without.nd rfl (by first | exact Or.inl rfl | exact Or.inr rfl)) pgs_nil)))) (fun _ _ _ _ _ => pts_nil) (fun _ _ _ _ _ => (pe_op op_sub (pv 2) (pv 3)))) pa_nil)))), ?_⟩
  refine ⟨_, rfl, _, rfl, p, q, _, _, rfl, .inr ⟨sqT hp, sqT hq, fun D hD => ?_⟩⟩
  refine rd_zip (fun i => .int ((sub a b).getD i 0)) hp hq (by simp [hl]) (by simp; omega) hD (fun _ _ => rfl) ?_ ?_
  · intro m x y H2 Q2 ex ey e2 hQ
    obtain ⟨x, e3, rfl⟩ := getI ex
    obtain ⟨y, e4, rfl⟩ := getI ey
    refine ⟨_, rfl, _, rfl, x, y, rfl, rfl, ?_⟩
    have e := sub_get e3 e4
    rw [List.getD_eq_getElem?_getD, e] at hQ
    exact hQ
  · intro H2 e2 hD2
    refine ⟨D, _, rfl, .inl ⟨sqL hD2, fun l hl2 => k.go (e2.trans (same_new hl2)) ?_⟩⟩
    refine At.row (l := sub a b) ?_
    rw [upd_same, List.length_map, show a.length = (sub a b).length by rw [sub_len hl, hl], range_map]
end
end K26
set_option Elab.async false
set_option linter.all false
set_option maxRecDepth 100000
set_option maxHeartbeats 4000000
namespace K26
open PySem PySem.Spec PyProof.Rows L2 RZ RT
/-! ## the state that is drawn from -/
/-- all that stands but at p, l stays -/
def Fr (p l : Addr) (H H' : Hp) : Prop := ∀ b u, b ≠ p → b ≠ l → H b = some u → H' b = some u
theorem Fr.refl {p l : Addr} {H : Hp} : Fr p l H H := fun _ _ _ _ h => h
theorem Fr.of {p l : Addr} {H H' : Hp} (e : Same H H') : Fr p l H H' := fun b u _ _ h => e b u h
theorem Fr.trans {p l : Addr} {H H1 H2 : Hp} (e : Fr p l H H1) (k : Fr p l H1 H2) : Fr p l H H2 := fun b u h1 h2 h => k b u h1 h2 (e b u h1 h2 h)
mutual
theorem At.fr {p l : Addr} {H H' : Hp} (e : Fr p l H H') (hp : NT H p) (hl : NT H l) : ∀ {v : V} {d : PyData}, At H v d → noL d = true → At H' v d
  | _, _, .non, _ => .non
  | _, _, .bl b, _ => .bl b
  | _, _, .int i, _ => .int i
  | _, _, .str x, _ => .str x
  | _, _, .lst _ _, h => by simp [noL] at h
  | _, _, .tup (a := a) (xs := xs) q k, h => by
    rw [noL] at h
    exact .tup (e _ _ (fun z => hp xs (by rw [← z]; exact q)) (fun z => hl xs (by rw [← z]; exact q)) q) (AtAll.fr e hp hl k h)
theorem AtAll.fr {p l : Addr} {H H' : Hp} (e : Fr p l H H') (hp : NT H p) (hl : NT H l) : ∀ {vs : List V} {ds : List PyData}, AtAll H vs ds → noLs ds = true → AtAll H' vs ds
  | _, _, .nil, _ => .nil
  | _, _, .cons h k, q => by
    rw [noLs, Bool.and_eq_true] at q
    exact .cons (At.fr e hp hl h q.1) (AtAll.fr e hp hl k q.2)
end
def dSt (c l : Addr) (n : Nat) : List (Key × V) := [(.inr "cells", .ref c), (.inr "lefts", .ref l), (.inr "at", .int (n : Nat))]
/-- the state stands at p, its lefts at l; n have been drawn -/
def Stt (H : Hp) (p c l : Addr) (n : Nat) : Prop := n ≤ 10000 ∧ ∃ (cs ls : List Int), H p = some (.dK (dSt c l n)) ∧ H c = some (.lst (cs.map V.int)) ∧ H l = some (.lst (ls.map V.int)) ∧ c ≠ l ∧ cs.length = ls.length ∧ 1 ≤ cs.length ∧ cs.length ≤ 1000
theorem Stt.mono {H H' : Hp} {p c l : Addr} {n : Nat} (h : Stt H p c l n) (e : Same H H') : Stt H' p c l n := by
  obtain ⟨hn, cs, ls, h1, h2, h3, h4⟩ := h
  exact ⟨hn, cs, ls, e _ _ h1, e _ _ h2, e _ _ h3, h4⟩
theorem Stt.ntp {H : Hp} {p c l : Addr} {n : Nat} (h : Stt H p c l n) : NT H p := by
  obtain ⟨hn, cs, ls, h1, h2, h3, h4⟩ := h
  intro xs z
  rw [h1] at z
  cases z
theorem Stt.ntl {H : Hp} {p c l : Addr} {n : Nat} (h : Stt H p c l n) : NT H l := by
  obtain ⟨hn, cs, ls, h1, h2, h3, h4⟩ := h
  exact nt_lst h3
theorem At.st {H H' : Hp} {p c l : Addr} {n : Nat} {v : V} {d : PyData} (h : At H v d) (S : Stt H p c l n) (e : Fr p l H H') (hd : noL d = true) : At H' v d := At.fr e S.ntp S.ntl h hd
section
variable {H : Hp} {p c l : Addr} {n : Nat}
theorem get_at (h : H p = some (.dK (dSt c l n))) : DGet H p (.str "at") (some (.int (n : Nat))) := by
  have g : valV (dSt c l n) (.inr "at") = some (.int (n : Nat)) := rfl
  rw [← g]
  exact DGet.k (k := .inr "at") h
theorem get_cells (h : H p = some (.dK (dSt c l n))) : DGet H p (.str "cells") (some (.ref c)) := by
  have g : valV (dSt c l n) (.inr "cells") = some (.ref c) := rfl
  rw [← g]
  exact DGet.k (k := .inr "cells") h
theorem get_lefts (h : H p = some (.dK (dSt c l n))) : DGet H p (.str "lefts") (some (.ref l)) := by
  have g : valV (dSt c l n) (.inr "lefts") = some (.ref l) := rfl
  rw [← g]
  exact DGet.k (k := .inr "lefts") h
theorem put_at (h : H p = some (.dK (dSt c l n))) : DPut H p (.str "at") (.int ((n : Nat) + 1)) (upd H p (.dK (dSt c l (n + 1)))) := by
  have q : putK (dSt c l n) (.inr "at") (.int ((n : Nat) + 1)) = dSt c l (n + 1) := rfl
  rw [← q]
  exact DPut.k (k := .inr "at") h (small' (by simp [dSt]))
end
theorem ix_nat {n j : Nat} (hj : j < n) : ixN n (j : Int) = some j := by
  unfold ixN
  rw [if_pos (by omega), if_pos (by omega)]
  rfl
/-- a number below L is drawn -/
def spDraw : Sp := fun vs H Q _ => ∃ (p c l : Addr) (n : Nat) (L : Int), vs = [.ref p, .int L] ∧ Stt H p c l n ∧ n < 10000 ∧ 1 ≤ L ∧ L < 1000000 ∧ ∀ (v : Int) (H' : Hp), 0 ≤ v → v < L → Fr p l H H' → Stt H' p c l (n + 1) → Q (.int v) H'
/-- .. of a list -/
def spOf : Sp := fun vs H Q _ => ∃ (p c l a : Addr) (n : Nat) (xs : List V), vs = [.ref p, .ref a] ∧ Stt H p c l n ∧ n < 10000 ∧ a ≠ p ∧ a ≠ l ∧ H a = some (.lst xs) ∧ 1 ≤ xs.length ∧ xs.length ≤ 1000 ∧ ∀ (i : Nat) (v : V) (H' : Hp), xs[i]? = some v → Fr p l H H' → Stt H' p c l (n + 1) → Q v H'
def spUnitsL : Sp := fun vs H Q _ => ∃ (p c l : Addr) (n : Nat), vs = [.ref p] ∧ Stt H p c l n ∧ n < 9000 ∧ ∀ (v : V) (us : List Int) (H' : Hp) (m : Nat), us.length ≤ 2 → (∀ u ∈ us, 2 ≤ u ∧ u ≤ 4) → m ≤ n + 4 → Fr p l H H' → Stt H' p c l m → At H' v (dR us) → Q v H'
section
variable {P : Program} {w : World} {K : PySem.W.Frag} {mg : Str → Option Value} {base : Heap} {f : Addr} {fd : FuncData} {A : XA}
theorem sc_law_draw : FnScope ["_law_state", "_law_limit", "_law_at", "_law_place", "_law_left", "_law_number"] ["_law_state", "_law_limit"] (defScope (top 46)) := ⟨rfl, rfl, rfl, by decide +kernel, rfl, by decide +kernel, by decide +kernel⟩
theorem ok_law_draw (B : Bi mg) (C_law_mixed : Cal P w K mg base CX0 1 "_law_mixed" ["_law_cell", "_law_k"] spMix) (F : FnP K "_law_draw" (top 46) f fd) : FnOk P w K mg base CX0 2 f fd ["_law_state", "_law_limit"] spDraw := by
  refine ok0 F sc_law_draw (fun vs H Q E h => by obtain ⟨_, _, _, _, _, rfl, _⟩ := h; rfl) (fun cdv A outer s H vs Q E hr h => ?_)
  obtain ⟨p, c, l, n, L, rfl, S, hn, hL1, hL2, k⟩ := h
  refine ⟨(tSeq (tAsg (tDGet (tVar 0) (tC (.str "at"))) (gName 2))
  (tSeq (sDPut (tVar 0) (tC (.str "at")) (tOp (rI0 fun i j => .int (i + j)) (tVar 2) (tC (.int 1))))
  (tSeq (tAsg (tOp (rI (fun _ j => 0 < j) fun i j => .int (i % j)) (tCB rIntQ (tCons (tVar 2) tNil)) (tCB (rLenQ K) (tCons (tDGet (tVar 0) (tC (.str "cells"))) tNil))) (gName 3))
  (tSeq (tAsg (tOp (rIxL K) (tDGet (tVar 0) (tC (.str "lefts"))) (tVar 3)) (gName 4))
  (tSeq (tIfS (tTest (tOp (rI0 fun i j => .bl (decide (j < i))) (tVar 4) (tC (.int 0)))) (tSeq (tAsg (tOp (rI CDiv fun i j => .int (i / j)) (tVar 4) (tVar 1)) (gSub (tDGet (tVar 0) (tC (.str "lefts"))) (tVar 3) rSetL))
  (tRet (tOp (rI (fun _ j => 0 < j) fun i j => .int (i % j)) (tCB rIntQ (tCons (tVar 4) tNil)) (tVar 1)))) tNext)
  (tSeq (tAsg (tCall spMix [] E0 (tCons (tCall spMix [] E0 (tCons (tOp (rIxL K) (tDGet (tVar 0) (tC (.str "cells"))) (tVar 3)) (tCons (tVar 2) tNil))) (tCons (tOp (rI0 fun i j => .int (i + j)) (tC (.int 40)) (tVar 2)) tNil))) (gName 5))
  (tRet (tOp (rI (fun _ j => 0 < j) fun i j => .int (i % j)) (tOp (rI CDiv fun i j => .int (i / j)) (tCB rIntQ (tCons (tOp (rI0 fun i j => .int (i + j)) (tOp (rI CMul fun i j => .int (i * j)) (tVar 5) (tC (.int 2147483647))) (tCall spMix [] E0 (tCons (tVar 5) (tCons (tOp (rI0 fun i j => .int (i + j)) (tC (.int 7)) (tVar 2)) tNil)))) tNil)) (tC (.int 64))) (tVar 1))))))))),
    (pss_cons (ps_set (i := 2) sc_law_draw.nd rfl (by first | exact Or.inl rfl | exact Or.inr rfl) (pe_dget (hu_of hr) (pv 0) pe_str (fun _ _ => rfl)))
  (pss_cons (ps_dput (hu_of hr) (pv 0) pe_str (pe_op op_add (pv 2) pe_int) rfl)
  (pss_cons (ps_set (i := 3) sc_law_draw.nd rfl (by first | exact Or.inl rfl | exact Or.inr rfl) (pe_op op_mod (pe_callTy call_intQ (by rfl) B.int (by decide +kernel) (pa_cons (pv 2) pa_nil)) (pe_callB call_lenQ (by rfl) B.len (by decide +kernel) (pa_cons (pe_dget (hu_of hr) (pv 0) pe_str (fun _ _ => rfl)) pa_nil))))
  (pss_cons (ps_set (i := 4) sc_law_draw.nd rfl (by first | exact Or.inl rfl | exact Or.inr rfl) (pe_ix ix_list (pe_dget (hu_of hr) (pv 0) pe_str (fun _ _ => rfl)) (pv 3) (fun _ _ => rfl)))
  (pss_cons (ps_if (pt_cmpR op_gt (pv 4) pe_int (nomark _))
  (pss_cons (ps_asg (pe_op op_fdiv (pv 4) (pv 1)) (pg_sub (pe_dget (hu_of hr) (pv 0) pe_str (fun _ _ => rfl)) (pv 3) set_list))
  (pss_one (ps_ret (pe_op op_mod (pe_callTy call_intQ (by rfl) B.int (by decide +kernel) (pa_cons (pv 4) pa_nil)) (pv 1)))))
  pss_nil)
  (pss_cons (ps_set (i := 5) sc_law_draw.nd rfl (by first | exact Or.inl rfl | exact Or.inr rfl) (pe_cal C_law_mixed hr (by first | decide | omega) (by rfl) pass0 (pa_cons (pe_cal C_law_mixed hr (by first | decide | omega) (by rfl) pass0 (pa_cons (pe_ix ix_list (pe_dget (hu_of hr) (pv 0) pe_str (fun _ _ => rfl)) (pv 3) (fun _ _ => rfl)) (pa_cons (pv 2) pa_nil))) (pa_cons (pe_op op_add pe_int (pv 2)) pa_nil))))
  (pss_one (ps_ret (pe_op op_mod (pe_op op_fdiv (pe_callTy call_intQ (by rfl) B.int (by decide +kernel) (pa_cons (pe_op op_add (pe_op op_mul (pv 5) pe_int) (pe_cal C_law_mixed hr (by first | decide | omega) (by rfl) pass0 (pa_cons (pv 5) (pa_cons (pe_op op_add pe_int (pv 2)) pa_nil)))) pa_nil)) pe_int) (pv 1)))))))))), ?_⟩
  obtain ⟨hn0, cs, ls, hp, hc, hl, hcl, hz1, hz2, hz3⟩ := S
  refine ⟨_, rfl, p, _, rfl, get_at hp, ?_⟩
  refine ⟨_, rfl, _, 1, rfl, rfl, _, rfl, p, _, rfl, put_at hp, ?_⟩
  have hpc : c ≠ p := ne_of hc hp (by intro z; cases z)
  have hpl : l ≠ p := ne_of hl hp (by intro z; cases z)
  have hp1 : (upd H p (.dK (dSt c l (n + 1)))) p = some (.dK (dSt c l (n + 1))) := upd_same
  have hc1 : (upd H p (.dK (dSt c l (n + 1)))) c = some (.lst (cs.map V.int)) := by rw [upd_ne hpc]; exact hc
  have hl1 : (upd H p (.dK (dSt c l (n + 1)))) l = some (.lst (ls.map V.int)) := by rw [upd_ne hpl]; exact hl
  have f1 : Fr p l H (upd H p (.dK (dSt c l (n + 1)))) := fun b u h1 _ h => by rw [upd_ne h1]; exact h
  generalize upd H p (.dK (dSt c l (n + 1))) = H1 at hp1 hc1 hl1 f1 ⊢
  refine ⟨_, rfl, _, rfl, _, rfl, p, _, rfl, get_cells hp1, c, _, rfl, .inl (sqL hc1), _, _, rfl, rfl, (by show (0 : Int) < _; rw [List.length_map]; omega), ?_⟩
  have ei : ((n : Nat) : Int) % (((cs.map V.int).length : Nat) : Int) = ((n % cs.length : Nat) : Int) := by rw [List.length_map]; rfl
  dsimp only
  rw [ei]
  have hlt : n % cs.length < cs.length := Nat.mod_lt _ hz2
  have gl : ls[n % cs.length]? = some (ls[n % cs.length]'(by omega)) := List.getElem?_eq_getElem (by omega)
  have gc : cs[n % cs.length]? = some (cs[n % cs.length]'(by omega)) := List.getElem?_eq_getElem (by omega)
  refine ⟨_, rfl, p, _, rfl, get_lefts hp1, _, rfl, l, _, _, _, rfl, rfl, sqL hl1, atI_nat (getT gl), ?_⟩
  refine ⟨_, rfl, _, 0, rfl, rfl, _, rfl, ?_⟩
  have S1 : Stt H1 p c l (n + 1) := ⟨by omega, cs, ls, hp1, hc1, hl1, hcl, hz1, hz2, hz3⟩
  refine ite2 (fun _ => ?_) (fun _ => ?_)
  · refine ⟨_, rfl, _, rfl, _, L, rfl, rfl, ⟨by omega, by omega⟩, _, rfl, p, _, rfl, get_lefts hp1, ?_⟩
    refine ⟨_, rfl, l, _, _, n % cs.length, rfl, rfl, hl1, ?_, ?_⟩
    · exact ix_nat (by rw [List.length_map]; omega)
    refine ⟨_, rfl, _, rfl, _, rfl, _, L, rfl, rfl, (by show (0 : Int) < _; omega), ?_⟩
    refine k _ _ (Int.emod_nonneg _ (by omega)) (Int.emod_lt_of_pos _ (by omega)) (f1.trans fun b u _ h2 h => by rw [upd_ne h2]; exact h) ⟨by omega, cs, ls.set (n % cs.length) (ls[n % cs.length]'(by omega) / L), ?_, ?_, ?_, hcl, by rw [List.length_set]; exact hz1, hz2, hz3⟩
    · rw [upd_ne (Ne.symm hpl)]
      exact hp1
    · rw [upd_ne hcl]
      exact hc1
    · rw [upd_same, List.map_set]
  · refine ⟨_, rfl, p, _, rfl, get_cells hp1, _, rfl, c, _, _, _, rfl, rfl, sqL hc1, atI_nat (getT gc), _, rfl, _, _, rfl, by omega, by omega, fun v1 hv1 hv2 => ?_⟩
    refine ⟨_, rfl, _, _, rfl, rfl, _, _, rfl, by omega, by omega, fun v2 hv3 hv4 => ?_⟩
    refine ⟨_, rfl, _, _, rfl, rfl, .inr ⟨by omega, by omega⟩, _, rfl, _, rfl, _, _, rfl, rfl, _, _, rfl, by omega, by omega, fun v3 hv5 hv6 => ?_⟩
    refine ⟨_, _, rfl, rfl, _, rfl, _, _, rfl, rfl, ⟨by omega, by omega⟩, _, rfl, _, L, rfl, rfl, (by show (0 : Int) < _; omega), ?_⟩
    exact k _ _ (Int.emod_nonneg _ (by omega)) (Int.emod_lt_of_pos _ (by omega)) f1 S1
theorem Stt.upd {H : Hp} {p c l D : Addr} {n : Nat} {o : HO} (h : Stt H p c l n) (h1 : D ≠ p) (h2 : D ≠ c) (h3 : D ≠ l) : Stt (upd H D o) p c l n := by
  obtain ⟨hn, cs, ls, q1, q2, q3, q4⟩ := h
  exact ⟨hn, cs, ls, by rw [upd_ne (Ne.symm h1)]; exact q1, by rw [upd_ne (Ne.symm h2)]; exact q2, by rw [upd_ne (Ne.symm h3)]; exact q3, q4⟩
theorem Stt.off {H : Hp} {p c l D : Addr} {n : Nat} (h : Stt H p c l n) (hD : H D = none) : D ≠ p ∧ D ≠ c ∧ D ≠ l := by
  obtain ⟨hn, cs, ls, q1, q2, q3, q4⟩ := h
  exact ⟨Ne.symm (ne_of_none q1 hD), Ne.symm (ne_of_none q2 hD), Ne.symm (ne_of_none q3 hD)⟩
theorem Fr.mut {p l D : Addr} {H H' : Hp} {o : HO} (e : Fr p l H H') (hD : H D = none) : Fr p l H (L2.upd H' D o) := fun b u h1 h2 h => by
  rw [upd_ne (ne_of_none h hD)]
  exact e b u h1 h2 h
theorem sc_law_of : FnScope ["_law_state", "_law_some"] ["_law_state", "_law_some"] (defScope (top 47)) := ⟨rfl, rfl, rfl, by decide +kernel, rfl, by decide +kernel, by decide +kernel⟩
theorem ok_law_of (B : Bi mg) (C_law_draw : Cal P w K mg base CX0 2 "_law_draw" ["_law_state", "_law_limit"] spDraw) (F : FnP K "_law_of" (top 47) f fd) : FnOk P w K mg base CX0 3 f fd ["_law_state", "_law_some"] spOf := by
  refine ok0 F sc_law_of (fun vs H Q E h => by obtain ⟨_, _, _, _, _, _, rfl, _⟩ := h; rfl) (fun cdv A outer s H vs Q E hr h => ?_)
  obtain ⟨p, c, l, a, n, xs, rfl, S, hn, hap, hal, ha, h1, h2, k⟩ := h
  refine ⟨(tRet (tOp (rIxL K) (tVar 1) (tCall spDraw [] E0 (tCons (tVar 0) (tCons (tCB (rLenQ K) (tCons (tVar 1) tNil)) tNil))))),
    (pss_one (ps_ret (pe_ix ix_list (pv 1) (pe_cal C_law_draw hr (by first | decide | omega) (by rfl) pass0 (pa_cons (pv 0) (pa_cons (pe_callB call_lenQ (by rfl) B.len (by decide +kernel) (pa_cons (pv 1) pa_nil)) pa_nil))) (fun _ _ => rfl)))), ?_⟩
  refine ⟨_, rfl, _, rfl, _, rfl, a, xs, rfl, .inl (sqL ha), p, c, l, n, _, rfl, S, hn, by omega, by omega, fun v H' hv1 hv2 e S' => ?_⟩
  have ha' := e _ _ hap hal ha
  have hv : v.toNat < xs.length := by omega
  have gx : xs[v.toNat]? = some (xs[v.toNat]'hv) := List.getElem?_eq_getElem hv
  refine ⟨a, xs, v, _, rfl, rfl, sqL ha', ?_, k _ _ _ gx e S'⟩
  rw [← gx]
  have := atI_nat (j := v.toNat) gx
  rw [show ((v.toNat : Nat) : Int) = v by omega] at this
  rw [this, gx]
theorem sc_law_units : FnScope ["_law_state", "_law_step"] ["_law_state"] (defScope (top 48)) := ⟨rfl, rfl, rfl, by decide +kernel, rfl, by decide +kernel, by decide +kernel⟩
theorem ok_law_units (B : Bi mg) (C_law_draw : Cal P w K mg base CX0 2 "_law_draw" ["_law_state", "_law_limit"] spDraw) (F : FnP K "_law_units" (top 48) f fd) : FnOk P w K mg base CX0 3 f fd ["_law_state"] spUnitsL := by
  refine ok0 F sc_law_units (fun vs H Q E h => by obtain ⟨_, _, _, _, rfl, _⟩ := h; rfl) (fun cdv A outer s H vs Q E hr h => ?_)
  obtain ⟨p, c, l, n, rfl, S, hn, k⟩ := h
  refine ⟨(tRet (tCB (rTupQ K) (tCons (tLc (iRng1 (tCons (tCall spDraw [] E0 (tCons (tVar 0) (tCons (tC (.int 3)) tNil))) tNil)) (gName 1) tYes (tOp (rI0 fun i j => .int (i + j)) (tC (.int 2)) (tCall spDraw [] E0 (tCons (tVar 0) (tCons (tC (.int 3)) tNil)))) [1]) tNil))),
    (pss_one (ps_ret (pe_callTy call_tupQ (by rfl) B.tuple (by decide +kernel) (pa_cons (pe_lc (own := [("_law_step", 1)]) (g := (gName 1)) (tt := tYes) (te := (tOp (rI0 fun i j => .int (i + j)) (tC (.int 2)) (tCall spDraw [] E0 (tCons (tVar 0) (tCons (tC (.int 3)) tNil))))) rfl sc_law_units.nd (pi_range1 (by rfl) B.range (pa_cons (pe_cal C_law_draw hr (by first | decide | omega) (by rfl) pass0 (pa_cons (pv 0) (pa_cons pe_int pa_nil))) pa_nil)) (blkOk_by (N := ["_law_state", "_law_step"]) (sc := defScope (top 48)) (by decide +kernel)) (fun _ _ _ _ _ => (pg_name (i := 1) sc_law_units.nd rfl (by first | exact Or.inl rfl | exact Or.inr rfl))) (fun _ _ _ _ _ => pts_nil) (fun _ _ _ _ _ => (pe_op op_add pe_int (pe_cal C_law_draw hr (by first | decide | omega) (by rfl) pass0 (pa_cons (pv 0) (pa_cons pe_int pa_nil)))))) pa_nil)))), ?_⟩
  refine ⟨_, rfl, p, c, l, n, 3, rfl, S, by omega, by omega, by omega, fun v H1 hv1 hv2 e1 S1 => ?_⟩
  refine ⟨_, rfl, by omega, by omega, fun D hD => ?_⟩
  have n1 := same_new (o := .lst []) hD
  obtain ⟨d1, d2, d3⟩ := S1.off hD
  refine lc_it walk_range (fun i H' => ∃ (us : List Int) (m : Nat), us.length = i ∧ (∀ u ∈ us, 2 ≤ u ∧ u ≤ 4) ∧ m = n + 1 + i ∧ Fr p l H1 H' ∧ Stt H' p c l m ∧ H' D = some (.lst (us.map V.int))) ⟨[], n + 1, rfl, by simp, rfl, .of n1, S1.mono n1, upd_same⟩ (fun _ _ _ _ => trivial) ?_ ?_
  · rintro i x H2 H3 hi ⟨us, m, hul, hub, rfl, e2, S2, h2⟩ ⟨rfl, rfl⟩
    refine ⟨rfl, yes_if ?_⟩
    refine ⟨_, rfl, p, c, l, _, 3, rfl, S2, by omega, by omega, by omega, fun v2 H4 hv3 hv4 e4 S4 => ?_⟩
    have h4 := e4 _ _ d1 d3 h2
    refine ⟨2, v2, rfl, rfl, us.map V.int, h4, small' (by rw [List.length_map]; omega), us ++ [2 + v2], _, by rw [List.length_append]; simp [hul], ?_, rfl, (e2.trans e4).mut hD, S4.upd d1 d2 d3, by rw [upd_same, List.map_append]; rfl⟩
    intro u hu
    rcases List.mem_append.mp hu with hu | hu
    · exact hub u hu
    · rw [List.mem_singleton] at hu
      omega
  · rintro H2 ⟨us, m, hul, hub, rfl, e2, S2, h2⟩
    refine ⟨D, _, rfl, .inl ⟨sqL h2, fun t ht => ?_⟩⟩
    have n2 := same_new (o := .tup (us.map V.int)) ht
    exact k _ us _ _ (by omega) hub (by omega) ((e1.trans e2).trans (.of n2)) (S2.mono n2) (At.row upd_same)
end
end K26
set_option Elab.async false
set_option linter.all false
set_option maxRecDepth 100000
set_option maxHeartbeats 4000000
namespace K26
open PySem PySem.Spec PyProof.Rows L2 RZ RT
/-! ## begin, row -/
def dot : List Int → List Int → Int
  | a :: as, b :: bs => a * b + dot as bs
  | _, _ => 0
theorem dot_snoc : ∀ {as bs : List Int} {a b : Int}, as.length = bs.length → dot (as ++ [a]) (bs ++ [b]) = dot as bs + a * b
  | [], [], a, b, _ => by simp [dot]
  | [], _ :: _, _, _, h => by simp at h
  | _ :: _, [], _, _, h => by simp at h
  | x :: as, y :: bs, a, b, h => by
    simp only [List.cons_append, dot]
    rw [dot_snoc (by simpa using h)]
    omega
/-- all a row is worth, in the smallest units -/
def tot (us r : List Int) : Int := dot r (sizes us)
theorem sizes_bd : ∀ {us : List Int}, (∀ u ∈ us, 2 ≤ u ∧ u ≤ 10) → ∀ z ∈ sizes us, 1 ≤ z ∧ z ≤ (10 ^ us.length : Nat)
  | [], _, z, hz => by
    simp only [sizes, List.mem_singleton] at hz
    subst hz
    decide
  | u :: us, h, z, hz => by
    have ih := sizes_bd (us := us) fun x hx => h x (List.mem_cons_of_mem _ hx)
    have hu := h u List.mem_cons_self
    rw [List.length_cons]
    have e10 : ((10 ^ (us.length + 1) : Nat) : Int) = (10 ^ us.length : Nat) * 10 := by
      rw [Nat.pow_succ]
      push_cast
      rfl
    rw [e10]
    rcases List.mem_cons.mp hz with rfl | hz
    · have hh : (sizes us).headD 0 ∈ sizes us := by
        have := sizes_ne us
        cases hs : sizes us with
        | nil => exact absurd hs this
        | cons x xs => exact List.mem_cons_self
      have q := ih _ hh
      constructor
      · have := Int.mul_le_mul q.1 (show (1 : Int) ≤ u by omega) (by omega) (by omega)
        simpa using this
      · exact Int.mul_le_mul q.2 hu.2 (by omega) (by omega)
    · have q := ih _ hz
      constructor
      · exact q.1
      · omega
theorem Us.sz {us : List Int} (h : Us us) : ∀ z ∈ sizes us, 1 ≤ z ∧ z ≤ 1000 := fun z hz => by
  have q := sizes_bd h.2 z hz
  have h3 := h.1
  refine ⟨q.1, Int.le_trans q.2 ?_⟩
  have : 10 ^ us.length ≤ 10 ^ 3 := Nat.pow_le_pow_right (by decide) h3
  omega
theorem nn_app {a b : List Int} : Nn a → Nn b → Nn (a ++ b) := by
  induction a with
  | nil => exact fun _ h => h
  | cons x xs ih => exact fun h k => ⟨h.1, ih h.2 k⟩
def spRowL : Sp := fun vs H Q _ => ∃ (p c l : Addr) (n : Nat) (v : V) (us : List Int) (M : Int), vs = [.ref p, v, .int M] ∧ Stt H p c l n ∧ n < 9000 ∧ At H v (dR us) ∧ Us us ∧ 0 ≤ M ∧ M ≤ 100 ∧
  ∀ (v : V) (r : List Int) (H' : Hp) (m : Nat), Row us r → tot us r ≤ M → m ≤ n + 6 → Fr p l H H' → Stt H' p c l m → At H' v (dR r) → Q v H'
/-- xs != [], xs a list that may be frozen or known -/
def rNeNilS (K : PySem.W.Frag) : R2 := fun x y H Q => ∃ l a xs ds, x = .ref l ∧ y = .ref a ∧ SqL K H l xs ∧ H a = some (.lst []) ∧ AtAll H xs ds ∧ (PyData.list ds).canLay0 = true ∧ Q (.bl (!ds.isEmpty)) H
theorem op_neNilS {X : Cx} (hu : X.A.units + 64 < cLine) : OpR X (compareOp .NotEq) (rNeNilS X.K) := by
  intro pins s σ H x y v u Q I rx ry h
  obtain ⟨l, a, xs, ds, rfl, rfl, hl, ha, hk, hc, q⟩ := h
  obtain ⟨as, r1⟩ := Dp.reads I (.list ds) _ v (.lst hl hk.dp) rx
  obtain ⟨bs, r2⟩ := Dp.reads I (.list []) _ u (.lst (sqL ha) .nil) ry
  refine SeqAt.compareNe_reads r1 r2 hc rfl ?_ ⟨.bl _, H, I, rfl, ?_⟩
  · have : min (PyData.list ds).depth (PyData.list []).depth ≤ 1 := Nat.le_trans (Nat.min_le_right _ _) (by simp [PyData.depth, PyData.depthAll])
    omega
  · have e : PyData.eqv (.list ds) (.list []) = ds.isEmpty := by cases ds <;> simp [PyData.eqv, PyData.eqvAll]
    rw [e]
    exact q
theorem sqL_same {K : PySem.W.Frag} {H H' : Hp} {a : Addr} {xs : List V} (h : SqL K H a xs) (e : Same H H') : SqL K H' a xs := by
  rcases h with (h | ⟨o, h⟩) | h
  · exact .inl (.inl (e _ _ h))
  · exact .inl (.inr ⟨o, e _ _ h⟩)
  · exact .inr h
def spBegin (K : PySem.W.Frag) : Sp := fun vs H Q _ => ∃ (a : Addr) (zs : List Int), vs = [.ref a] ∧ SqL K H a (zs.map V.int) ∧ zs.length ≤ 1000 ∧ ∀ p c l H', Same H H' → H p = none → H l = none → Stt H' p c l 0 → Q (.ref p) H'
section
variable {P : Program} {w : World} {K : PySem.W.Frag} {mg : Str → Option Value} {base : Heap} {f : Addr} {fd : FuncData} {A : XA}
theorem sc_law_row : FnScope ["_law_state", "_law_units_so", "_law_most", "_law_found", "_law_left", "_law_size", "_law_number"] ["_law_state", "_law_units_so", "_law_most"] (defScope (top 50)) := ⟨rfl, rfl, rfl, by decide +kernel, rfl, by decide +kernel, by decide +kernel⟩
theorem ok_law_row (B : Bi mg) (C_law_draw : Cal P w K mg base CX0 2 "_law_draw" ["_law_state", "_law_limit"] spDraw) (C_law_sizes : Cal P w K mg base CX0 1 "_law_sizes" ["_law_units_so"] spSizes) (F : FnP K "_law_row" (top 50) f fd) :
    FnOk P w K mg base CX0 3 f fd ["_law_state", "_law_units_so", "_law_most"] spRowL := by
  refine ok0 F sc_law_row (fun vs H Q E h => by obtain ⟨_, _, _, _, _, _, _, rfl, _⟩ := h; rfl) (fun cdv A outer s H vs Q E hr h => ?_)
  obtain ⟨p, c, l, n, v, us, M, rfl, S, hn, hv, hU, hM0, hM1, k⟩ := h
  refine ⟨(tSeq (tPar 3 4 (tCons (tTup tNil) (tCons (tCall spDraw [] E0 (tCons (tVar 0) (tCons (tOp (rI0 fun i j => .int (i + j)) (tVar 2) (tC (.int 1))) tNil))) tNil)))
  (tSeq (tFor (iTup K (tCall spSizes [] E0 (tCons (tVar 1) tNil))) (gName 5) (tSeq (tAsg (tCall spDraw [] E0 (tCons (tVar 0) (tCons (tOp (rI0 fun i j => .int (i + j)) (tOp (rI CDiv fun i j => .int (i / j)) (tCB rIntQ (tCons (tVar 4) tNil)) (tVar 5)) (tC (.int 1))) tNil))) (gName 6))
  (tPar 3 4 (tCons (tOp (rCatA K) (tVar 3) (tTup (tCons (tVar 6) tNil))) (tCons (tOp (rI0 fun i j => .int (i - j)) (tVar 4) (tOp (rI CMul fun i j => .int (i * j)) (tVar 6) (tVar 5))) tNil)))))
  (tRet (tVar 3)))),
    (pss_cons (ps_par (i := 3) (j := 4) rfl sc_law_row.nd rfl rfl (by decide) rfl rfl (pa_cons (pe_tup pa_nil) (pa_cons (pe_cal C_law_draw hr (by first | decide | omega) (by rfl) pass0 (pa_cons (pv 0) (pa_cons (pe_op op_add (pv 2) pe_int) pa_nil))) pa_nil)) (by rfl))
  (pss_cons (ps_for PassesOwn.never rfl (pi_tup (pe_cal C_law_sizes hr (by first | decide | omega) (by rfl) pass0 (pa_cons (pv 1) pa_nil))) (pg_name (i := 5) sc_law_row.nd rfl (by first | exact Or.inl rfl | exact Or.inr rfl))
  (pss_cons (ps_set (i := 6) sc_law_row.nd rfl (by first | exact Or.inl rfl | exact Or.inr rfl) (pe_cal C_law_draw hr (by first | decide | omega) (by rfl) pass0 (pa_cons (pv 0) (pa_cons (pe_op op_add (pe_op op_fdiv (pe_callTy call_intQ (by rfl) B.int (by decide +kernel) (pa_cons (pv 4) pa_nil)) (pv 5)) pe_int) pa_nil))))
  (pss_one (ps_par (i := 3) (j := 4) rfl sc_law_row.nd rfl rfl (by decide) rfl rfl (pa_cons (pe_op op_catA (pv 3) (pe_tup (pa_cons (pv 6) pa_nil))) (pa_cons (pe_op op_sub (pv 4) (pe_op op_mul (pv 6) (pv 5))) pa_nil)) (by rfl)))))
  (pss_one (ps_ret (pv 3))))), ?_⟩
  refine ⟨small_ (by simp), fun t1 ht1 => ?_⟩
  have n1 := same_new (o := .tup []) ht1
  have hz3 := hU.1
  refine ⟨_, rfl, _, rfl, _, 1, rfl, rfl, p, c, l, n, M + 1, rfl, S.mono n1, by omega, by omega, by omega, fun L H1 hL0 hL1 e1 S1 => ?_⟩
  have f1 : Fr p l H H1 := (Fr.of n1).trans e1
  have hv1 : At H1 v (dR us) := (hv.mono n1).st (S.mono n1) e1 (noL_dR _)
  have ht : At H1 (.ref t1) (dR []) := At.st (At.row (l := []) upd_same) (S.mono n1) e1 (noL_dR _)
  refine ⟨_, _, rfl, ?_⟩
  refine ⟨_, rfl, v, us, rfl, hv1, hU, fun v2 H2 e2 a2 => ?_⟩
  obtain ⟨p2, rfl, hp2⟩ := a2.of_row
  refine ⟨p2, rfl, ⟨_, sqT hp2⟩, ?_⟩
  have hsl := sizes_len us
  refine for_it (walk_tup (xs := (sizes us).map V.int)) (fun i σ H' => ∃ (x3 : V) (y5 y6 : Option V) (nums : List Int) (left : Int) (m : Nat), σ = [some (.ref p), some v, some (.int M), some x3, some (.int left), y5, y6] ∧ nums.length = i ∧ At H' x3 (dR nums) ∧ Nn nums ∧ 0 ≤ left ∧ dot nums ((sizes us).take i) + left ≤ M ∧ left ≤ 100 ∧ m = n + 1 + i ∧ Fr p l H H' ∧ Stt H' p c l m ∧ H' p2 = some (.tup ((sizes us).map V.int)))
    ⟨.ref t1, none, none, [], L, _, rfl, rfl, ht.mono e2, trivial, hL0, by simp [dot]; omega, by omega, rfl, f1.trans (.of e2), S1.mono e2, hp2⟩ (fun i σ H' _ h => ?_) ?_ ?_
  · obtain ⟨_, _, _, _, _, _, _, _, _, _, _, _, _, _, _, _, h⟩ := h
    exact sqT h
  · rintro i x σ H3 H4 hi ⟨x3, y5, y6, nums, left, m, rfl, hnl, h3, hnn, hl0, hdot, hl1, rfl, e3, S3, hp3⟩ hY
    obtain ⟨rfl, hx⟩ := hY
    obtain ⟨z, hz, rfl⟩ := getI hx
    have hzb := hU.sz z (List.mem_of_getElem? hz)
    have hil : i < (sizes us).length := (List.getElem?_eq_some_iff.mp hz).1
    have hdv : left / z ≤ left := Int.ediv_le_self _ hl0
    have hdv0 : 0 ≤ left / z := Int.ediv_nonneg hl0 (by omega)
    refine ⟨_, rfl, _, rfl, _, rfl, _, rfl, _, z, rfl, rfl, ⟨by omega, by omega⟩, _, 1, rfl, rfl, p, c, l, _, left / z + 1, rfl, S3, by omega, by omega, by omega, fun num H5 hn0 hn1 e5 S5 => ?_⟩
    have h35 := h3.st S3 e5 (noL_dR _)
    have hp5 : H5 p2 = some (.tup ((sizes us).map V.int)) := by
      have := (At.row hp3).st S3 e5 (noL_dR _)
      exact this.row_tup
    obtain ⟨p3, rfl, hp30⟩ := h35.of_row
    refine ⟨_, rfl, _, rfl, small_ (by simp), fun t6 ht6 => ?_⟩
    have n6 := same_new (o := .tup [.int num]) ht6
    refine cat_row (h35.mono n6) (At.row (l := [num]) upd_same) (by simp; omega) fun v7 H7 e7 a7 => ?_
    refine ⟨_, rfl, _, rfl, _, rfl, _, _, rfl, rfl, .inl ⟨by omega, by omega⟩, _, _, rfl, rfl, ?_⟩
    have hmul : num * z ≤ left := by
      have h1 : num * z ≤ left / z * z := Int.mul_le_mul_of_nonneg_right (by omega) (by omega)
      have h2 : left / z * z ≤ left := Int.ediv_mul_le _ (by omega)
      omega
    have hmul0 : 0 ≤ num * z := Int.mul_nonneg hn0 (by omega)
    have et : (sizes us).take (i + 1) = (sizes us).take i ++ [z] := by rw [List.take_succ, hz]; rfl
    refine ⟨_, _, rfl, v7, _, _, nums ++ [num], left - num * z, _, rfl, by simp [hnl], a7, nn_app hnn ⟨hn0, trivial⟩, by omega, ?_, by omega, rfl, (e3.trans e5).trans (.of (n6.trans e7)), S5.mono (n6.trans e7), (n6.trans e7) _ _ hp5⟩
    rw [et, dot_snoc (by rw [List.length_take]; omega)]
    omega
  · rintro σ H3 ⟨x3, y5, y6, nums, left, m, rfl, hnl, h3, hnn, hl0, hdot, hl1, rfl, e3, S3, hp3⟩
    rw [List.length_map] at hnl hdot S3
    rw [List.take_length] at hdot
    exact ⟨_, rfl, k x3 nums _ _ ⟨by omega, hnn⟩ (by unfold tot; omega) (by omega) e3 S3 h3⟩
theorem sc_law_begin : FnScope ["_law_script", "_law_cells_so", "_law_cell"] ["_law_script"] (defScope (top 45)) := ⟨rfl, rfl, rfl, by decide +kernel, rfl, by decide +kernel, by decide +kernel⟩
theorem ok_law_begin (B : Bi mg) (F : FnP K "_law_begin" (top 45) f fd) : FnOk P w K mg base CX0 1 f fd ["_law_script"] (spBegin K) := by
  refine ok0 F sc_law_begin (fun vs H Q E h => by obtain ⟨_, _, rfl, _⟩ := h; rfl) (fun cdv A outer s H vs Q E hr h => ?_)
  obtain ⟨a, zs, rfl, ha, hz, k⟩ := h
  refine ⟨(tSeq (tAsg (tIf (tTest (tOp (rNeNilS K) (tVar 0) (tLst tNil))) (tCB (rListQ K) (tCons (tVar 0) tNil)) (tLst (tCons (tC (.int 0)) tNil))) (gName 1))
  (tRet (tDisp [((tC (.str "cells")), (tVar 1)), ((tC (.str "lefts")), (tLc (iList K (tVar 1)) (gName 2) tYes (tIf (tTest (tOp (rI0 fun i j => .bl (decide (j ≤ i))) (tVar 2) (tOp (rI CPow fun i j => .int (i ^ j.toNat)) (tC (.int 10)) (tC (.int 18))))) (tVar 2) (tC (.int 0))) [2])), ((tC (.str "at")), (tC (.int 0)))]))),
    (pss_cons (ps_set (i := 1) sc_law_begin.nd rfl (by first | exact Or.inl rfl | exact Or.inr rfl) (pe_ifExp (pt_cmpR (op_neNilS hr.units) (pv 0) (pe_lst pa_nil) (nomark _)) (pe_callTy call_listQ (by rfl) B.list (by decide +kernel) (pa_cons (pv 0) pa_nil)) (pe_lst (pa_cons pe_int pa_nil))))
  (pss_one (ps_ret (pe_disp (pps_cons pe_str (pv 1) (pps_cons pe_str (pe_lc (own := [("_law_cell", 2)]) (g := (gName 2)) (tt := tYes) (te := (tIf (tTest (tOp (rI0 fun i j => .bl (decide (j ≤ i))) (tVar 2) (tOp (rI CPow fun i j => .int (i ^ j.toNat)) (tC (.int 10)) (tC (.int 18))))) (tVar 2) (tC (.int 0)))) rfl sc_law_begin.nd (pi_list (pv 1)) (blkOk_by (N := ["_law_script", "_law_cells_so", "_law_cell"]) (sc := defScope (top 45)) (by decide +kernel)) (fun _ _ _ _ _ => (pg_name (i := 2) sc_law_begin.nd rfl (by first | exact Or.inl rfl | exact Or.inr rfl))) (fun _ _ _ _ _ => pts_nil) (fun _ _ _ _ _ => (pe_ifExp (pt_cmpR op_ge (pv 2) (pe_op op_pow pe_int pe_int) (nomark _)) (pv 2) pe_int))) (pps_cons pe_str pe_int pps_nil))) (by rfl) (by rfl) (fun z => by cases z) (by decide))))), ?_⟩
  have hcl : (PyData.list (zs.map PyData.int)).canLay0 = true := by
    rw [PyData.canLay0]
    refine canLay_all fun d hd => ?_
    obtain ⟨i, _, rfl⟩ := List.mem_map.mp hd
    simp [PyData.canLay0]
  refine ⟨_, rfl, small_ (by simp), fun t1 ht1 => ?_⟩
  have n1 := same_new (o := .lst []) ht1
  have ha1 := sqL_same ha n1
  refine ⟨a, t1, _, _, rfl, rfl, ha1, upd_same, AtAll.ints zs, hcl, _, rfl, ?_⟩
  have rest : ∀ (c : Addr) (cs : List Int) (H1 : Hp), Same H H1 → H c = none → H1 c = some (.lst (cs.map V.int)) → 1 ≤ cs.length → cs.length ≤ 1000 →
      tRet (tDisp [((tC (.str "cells")), (tVar 1)), ((tC (.str "lefts")), (tLc (iList K (tVar 1)) (gName 2) tYes (tIf (tTest (tOp (rI0 fun i j => .bl (decide (j ≤ i))) (tVar 2) (tOp (rI CPow fun i j => .int (i ^ j.toNat)) (tC (.int 10)) (tC (.int 18))))) (tVar 2) (tC (.int 0))) [2])), ((tC (.str "at")), (tC (.int 0)))])
        { nx := fun _ H' => Q .non H', rt := Q } [some (.ref a), some (.ref c), none] H1 := by
    intro c cs H1 e1 hc hc1 hz1 hz2 p hp
    have n2 := same_new (o := .dK []) hp
    have hpH : H p = none := by
      cases h : H p with
      | none => rfl
      | some o => rw [e1 _ _ h] at hp; cases hp
    refine ⟨_, rfl, _, rfl, c, rfl, ⟨_, sqL (n2 _ _ hc1)⟩, fun D hD => ?_⟩
    have n3 := same_new (o := .lst []) hD
    have hDp : D ≠ p := Ne.symm (ne_of_none upd_same hD)
    have hDc : D ≠ c := Ne.symm (ne_of_none (n2 _ _ hc1) hD)
    have hDH : H D = none := by
      cases h : H D with
      | none => rfl
      | some o => rw [n2 _ _ (e1 _ _ h)] at hD; cases hD
    have hpc : c ≠ p := ne_of_none hc1 hp
    refine lc_it (walk_list (xs := cs.map V.int)) (fun i H' => ∃ ls : List Int, ls.length = i ∧ Same H H' ∧ H' p = some (.dK []) ∧ H' c = some (.lst (cs.map V.int)) ∧ H' D = some (.lst (ls.map V.int))) ⟨[], rfl, e1.trans (n2.trans n3), n3 _ _ upd_same, (n2.trans n3) _ _ hc1, upd_same⟩ (fun i H' _ h => ?_) ?_ ?_
    · obtain ⟨_, _, _, _, h, _⟩ := h
      exact sqL h
    · rintro i x H2 H3 hi ⟨ls, hl, e2, h2p, h2c, h2D⟩ hY
      obtain ⟨rfl, hx⟩ := hY
      obtain ⟨z, hz, rfl⟩ := getI hx
      rw [List.length_map] at hi
      refine ⟨rfl, yes_if ⟨_, rfl, 10, 18, rfl, rfl, ⟨by decide, by decide, by decide⟩, _, _, rfl, rfl, _, rfl, ?_⟩⟩
      have fin : ∀ y : Int, ∃ acc, H3 D = some (.lst acc) ∧ acc.length < sizeLine ∧ ∃ ls : List Int, ls.length = i + 1 ∧ Same H (upd H3 D (.lst (acc ++ [.int y]))) ∧ (upd H3 D (.lst (acc ++ [.int y]))) p = some (.dK []) ∧ (upd H3 D (.lst (acc ++ [.int y]))) c = some (.lst (cs.map V.int)) ∧ (upd H3 D (.lst (acc ++ [.int y]))) D = some (.lst (ls.map V.int)) := fun y =>
        ⟨_, h2D, small' (by rw [List.length_map]; omega), ls ++ [y], by simp [hl], same_mut e2 hDH, by rw [upd_ne (Ne.symm hDp)]; exact h2p, by rw [upd_ne (Ne.symm hDc)]; exact h2c, by rw [upd_same, List.map_append]; rfl⟩
      refine ite2 (fun _ => ⟨_, rfl, fin _⟩) (fun _ => fin 0)
    · rintro H2 ⟨ls, hl, e2, h2p, h2c, h2D⟩
      rw [List.length_map] at hl
      refine ⟨h2p, dSt c D 0, rfl, by simp [dSt], ?_⟩
      have em : mergeK [] (dSt c D 0) = dSt c D 0 := rfl
      rw [em]
      refine k p c D _ (same_mut e2 hpH) hpH hDH ⟨by omega, cs, ls, upd_same, ?_, ?_, Ne.symm hDc, hl.symm, hz1, hz2⟩
      · rw [upd_ne hpc]; exact h2c
      · rw [upd_ne hDp]; exact h2D
  cases zs with
  | nil =>
    refine iteF ⟨small_ (by simp), fun c hc => rest c [0] _ (n1.trans (same_new hc)) ?_ upd_same (by simp) (by simp)⟩
    cases h : H c with
    | none => rfl
    | some o => rw [n1 _ _ h] at hc; cases hc
  | cons z zs =>
    refine iteT ⟨_, rfl, a, _, rfl, .inl ha1, fun c hc => rest c (z :: zs) _ (n1.trans (same_new hc)) ?_ upd_same (by simp) hz⟩
    cases h : H c with
    | none => rfl
    | some o => rw [n1 _ _ h] at hc; cases hc
end
end K26
set_option Elab.async false
set_option linter.all false
set_option maxRecDepth 100000
set_option maxHeartbeats 4000000
namespace K26
open PySem PySem.Spec PyProof.Rows L2 RZ RT
/-! ## grove, yards, stocked -/
mutual
/-- the stocks are worth at most 4, the asks at most 3 -/
def Lit (us : List Int) : Tr → Prop
  | .nd s a un => tot us s ≤ 4 ∧ tot us a ≤ 3 ∧ LitAll us un
def LitAll (us : List Int) : List Tr → Prop
  | [] => True
  | c :: cs => Lit us c ∧ LitAll us cs
end
theorem litAll_app {us : List Int} : ∀ {a b : List Tr}, LitAll us a → LitAll us b → LitAll us (a ++ b)
  | [], _, _, h => h
  | c :: a, b, h, k => by
    simp only [LitAll] at h
    simp only [List.cons_append, LitAll]
    exact ⟨h.1, litAll_app h.2 k⟩
theorem goodAll_app {us : List Int} : ∀ {a b : List Tr}, GoodAll us a → GoodAll us b → GoodAll us (a ++ b)
  | [], _, _, h => h
  | c :: a, b, h, k => by
    simp only [GoodAll] at h
    simp only [List.cons_append, GoodAll]
    exact ⟨h.1, goodAll_app h.2 k⟩
theorem yss_app : ∀ {a b : List Tr} {p : List Int} {i : Nat}, yss (a ++ b) p i = yss a p i ++ yss b p (i + a.length)
  | [], b, p, i => by simp [yss]
  | c :: a, b, p, i => by
    simp only [List.cons_append, yss, List.length_cons, List.append_assoc]
    rw [yss_app, show i + 1 + a.length = i + (a.length + 1) by omega]
theorem trDs_app (a b : List Tr) : trDs (a ++ b) = trDs a ++ trDs b := by rw [trDs_map, trDs_map, trDs_map, List.map_append]
def spGrove (N : Nat) : Sp := fun vs H Q _ => ∃ (p c l : Addr) (n : Nat) (v : V) (us : List Int) (M : Nat), vs = [.ref p, v, .int (M : Int)] ∧ Stt H p c l n ∧ n + 40 * M ≤ 8000 ∧ At H v (dR us) ∧ Us us ∧ 1 ≤ M ∧ M ≤ 3 ∧ M < N ∧
  ∀ (x : V) (t : Tr) (H' : Hp) (m : Nat), Good us t → Lit us t → (ysT t []).length ≤ M → m ≤ n + 40 * M → Fr p l H H' → Stt H' p c l m → At H' x (trD t) → Q x H'
def spYardsL (N : Nat) : Sp := fun vs H Q _ => ∃ (v y : V) (t : Tr) (p : List Int), vs = [v, y] ∧ At H v (trD t) ∧ At H y (dR p) ∧ (ysT t []).length < N ∧ (ysT t []).length ≤ 400 ∧ p.length + 2 * (ysT t []).length ≤ 2000 ∧ RetL H Q ((ysT t p).map itemT)
def spStkL (N : Nat) : Sp := fun vs H Q _ => ∃ (v y x : V) (us : List Int) (t s : Tr) (r : List Nat) (row : List Int), vs = [v, y, x] ∧ At H v (trD t) ∧ At H y (dR (flat r)) ∧ At H x (dR row) ∧ Good us t ∧ us.length ≤ 3 ∧ Row us row ∧ r.length < N ∧ sub? r t = some s ∧ (ysT t []).length ≤ 400 ∧ Ret H Q (trD (stk row r t))
section
variable {P : Program} {w : World} {K : PySem.W.Frag} {mg : Str → Option Value} {base : Heap} {f : Addr} {fd : FuncData} {A : XA}
theorem sc_law_grove : FnScope ["_law_state", "_law_units_so", "_law_many_so", "_law_stock_so", "_law_asks_so", "_law_under", "_law_left", "_law_size"] ["_law_state", "_law_units_so", "_law_many_so"] (defScope (top 58)) := ⟨rfl, rfl, rfl, by decide +kernel, rfl, by decide +kernel, by decide +kernel⟩
theorem ok_law_grove (B : Bi mg) (C_law_draw : Cal P w K mg base CX0 2 "_law_draw" ["_law_state", "_law_limit"] spDraw) (C_law_row : Cal P w K mg base CX0 3 "_law_row" ["_law_state", "_law_units_so", "_law_most"] spRowL)
    (F : FnP K "_law_grove" (top 58) f fd) (hm : mg "_law_grove" = some (.ref f)) (hk : PySem.W.keepIn K (.ref f) = true) (hb : Binds K fd ["_law_state", "_law_units_so", "_law_many_so"] []) :
    ∀ N, FnOk P w K mg base CX0 (N + 4) f fd ["_law_state", "_law_units_so", "_law_many_so"] (spGrove N)
  | 0 => ok0 F sc_law_grove (fun vs H Q E h => by obtain ⟨_, _, _, _, _, _, _, rfl, _⟩ := h; rfl) (fun cdv A' outer s0 H vs Q E hr h => by
    obtain ⟨_, _, _, _, _, _, _, rfl, _, _, _, _, _, _, h, _⟩ := h
    exact absurd h (Nat.not_lt_zero _))
  | N + 1 => by
    have C_law_grove : Cal P w K mg base CX0 (N + 4) "_law_grove" ["_law_state", "_law_units_so", "_law_many_so"] (spGrove N) := ⟨f, fd, ok_law_grove B C_law_draw C_law_row F hm hk hb N, hm, hk, hb⟩
    refine ok0 F sc_law_grove (fun vs H Q E h => by obtain ⟨_, _, _, _, _, _, _, rfl, _⟩ := h; rfl) (fun cdv A' outer s0 H vs Q E hr h => ?_)
    obtain ⟨p, c, l, n, v, us, M, rfl, S, hn, hv, hU, hM1, hM3, hMN, k⟩ := h
    refine ⟨(tSeq (tPar 3 4 (tCons (tCall spRowL [] E0 (tCons (tVar 0) (tCons (tVar 1) (tCons (tC (.int 4)) tNil)))) (tCons (tCall spRowL [] E0 (tCons (tVar 0) (tCons (tVar 1) (tCons (tC (.int 3)) tNil)))) tNil)))
  (tSeq (tPar 5 6 (tCons (tTup tNil) (tCons (tOp (rI0 fun i j => .int (i - j)) (tVar 2) (tC (.int 1))) tNil)))
  (tSeq (tWhile (tAnd (tTest (tOp (rI0 fun i j => .bl (decide (j < i))) (tVar 6) (tC (.int 0)))) (tTest (tOp (rI0 fun i j => .bl (decide (j < i))) (tCall spDraw [] E0 (tCons (tVar 0) (tCons (tC (.int 4)) tNil))) (tC (.int 0))))) (tSeq (tAsg (tOp (rI0 fun i j => .int (i + j)) (tC (.int 1)) (tCall spDraw [] E0 (tCons (tVar 0) (tCons (tVar 6) tNil)))) (gName 7))
  (tSeq (tAsg (tOp (rCatA K) (tVar 5) (tTup (tCons (tCall (spGrove N) [] E0 (tCons (tVar 0) (tCons (tVar 1) (tCons (tVar 7) tNil)))) tNil))) (gName 5))
  (tAsg (tOp (rI0 fun i j => .int (i - j)) (tVar 6) (tVar 7)) (gName 6)))))
  (tRet (tTup (tCons (tVar 3) (tCons (tVar 4) (tCons (tVar 5) tNil)))))))),
    (pss_cons (ps_par (i := 3) (j := 4) rfl sc_law_grove.nd rfl rfl (by decide) rfl rfl (pa_cons (pe_cal C_law_row hr (by first | decide | omega) (by rfl) pass0 (pa_cons (pv 0) (pa_cons (pv 1) (pa_cons pe_int pa_nil)))) (pa_cons (pe_cal C_law_row hr (by first | decide | omega) (by rfl) pass0 (pa_cons (pv 0) (pa_cons (pv 1) (pa_cons pe_int pa_nil)))) pa_nil)) (by rfl))
  (pss_cons (ps_par (i := 5) (j := 6) rfl sc_law_grove.nd rfl rfl (by decide) rfl rfl (pa_cons (pe_tup pa_nil) (pa_cons (pe_op op_sub (pv 2) pe_int) pa_nil)) (by rfl))
  (pss_cons (ps_while PassesOwn.never (PW.pt (pw_and (pt_cmpR op_gt (pv 6) pe_int (nomark _)) (pw_and1 (pt_cmpR op_gt (pe_cal C_law_draw hr (by first | decide | omega) (by rfl) pass0 (pa_cons (pv 0) (pa_cons pe_int pa_nil))) pe_int (nomark _)))))
  (pss_cons (ps_set (i := 7) sc_law_grove.nd rfl (by first | exact Or.inl rfl | exact Or.inr rfl) (pe_op op_add pe_int (pe_cal C_law_draw hr (by first | decide | omega) (by rfl) pass0 (pa_cons (pv 0) (pa_cons (pv 6) pa_nil)))))
  (pss_cons (ps_set (i := 5) sc_law_grove.nd rfl (by first | exact Or.inl rfl | exact Or.inr rfl) (pe_op op_catA (pv 5) (pe_tup (pa_cons (pe_cal C_law_grove hr (by first | decide | omega) (by rfl) pass0 (pa_cons (pv 0) (pa_cons (pv 1) (pa_cons (pv 7) pa_nil)))) pa_nil))))
  (pss_one (ps_set (i := 6) sc_law_grove.nd rfl (by first | exact Or.inl rfl | exact Or.inr rfl) (pe_op op_sub (pv 6) (pv 7)))))))
  (pss_one (ps_ret (pe_tup (pa_cons (pv 3) (pa_cons (pv 4) (pa_cons (pv 5) pa_nil))))))))), ?_⟩
    refine ⟨_, rfl, _, rfl, p, c, l, n, v, us, 4, rfl, S, by omega, hv, hU, by omega, by omega, fun v3 s1 H1 m1 r1 t1 hm1 e1 S1 a1 => ?_⟩
    have hv1 := hv.st S e1 (noL_dR _)
    refine ⟨_, rfl, _, rfl, p, c, l, m1, v, us, 3, rfl, S1, by omega, hv1, hU, by omega, by omega, fun v4 s2 H2 m2 r2 t2 hm2 e2 S2 a2 => ?_⟩
    have hv2 := hv1.st S1 e2 (noL_dR _)
    have a1' := a1.st S1 e2 (noL_dR _)
    refine ⟨_, _, rfl, small_ (by simp), fun t5 ht5 => ?_⟩
    have n5 := same_new (o := .tup []) ht5
    refine ⟨_, rfl, _, 1, rfl, rfl, _, _, rfl, ?_⟩
    refine ⟨fun k σ H' => ∃ (x5 : V) (y7 : Option V) (un : List Tr) (left m : Nat), left = k ∧ σ = [some (.ref p), some v, some (.int (M : Int)), some v3, some v4, some x5, some (.int (left : Int)), y7] ∧ left + 1 ≤ M ∧ m ≤ n + 12 + 42 * (M - 1 - left) ∧ Fr p l H H' ∧ Stt H' p c l m ∧
      At H' v (dR us) ∧ At H' v3 (dR s1) ∧ At H' v4 (dR s2) ∧ At H' x5 (.tuple (trDs un)) ∧ GoodAll us un ∧ LitAll us un ∧ (yss un [] 0).length ≤ M - 1 - left,
      ⟨M - 1, .ref t5, none, [], M - 1, m2, rfl, ?_, by omega, by omega, (e1.trans e2).trans (.of n5), S2.mono n5, hv2.mono n5, a1'.mono n5, a2.mono n5, .tup upd_same .nil, trivial, trivial, by simp [yss]⟩, ?_⟩
    · rw [show ((M - 1 : Nat) : Int) = (M : Int) - 1 by omega]
      rfl
    rintro _ σ H3 ⟨x5, y7, un, left, m, rfl, rfl, hl, hm, e3, S3, h3v, h33, h34, h35, hg, hlit, hlen⟩
    have fin : ∀ (H4 : Hp) (m' : Nat), m' ≤ m + 1 → Fr p l H3 H4 → Stt H4 p c l m' → tRet (tTup (tCons (tVar 3) (tCons (tVar 4) (tCons (tVar 5) tNil)))) { nx := fun _ H' => Q .non H', rt := Q } [some (.ref p), some v, some (.int (M : Int)), some v3, some v4, some x5, some (.int (left : Int)), y7] H4 := by
      intro H4 m' hm' e4 S4
      refine ⟨_, rfl, _, rfl, _, rfl, small_ (by simp), fun t8 ht8 => ?_⟩
      have n8 := same_new (o := .tup [v3, v4, x5]) ht8
      have q3 := h33.st S3 e4 (noL_dR _)
      have q4 := h34.st S3 e4 (noL_dR _)
      have q5 := h35.st S3 e4 (by rw [noL]; exact noL_trDs un)
      refine k _ (.nd s1 s2 un) _ m' (by simp only [Good]; exact ⟨r1, r2, hg⟩) (by simp only [Lit]; exact ⟨t1, t2, hlit⟩) ?_ ?_ ((e3.trans e4).trans (.of n8)) (S4.mono n8) ?_
      · rw [ysT, List.length_cons]; omega
      · omega
      · rw [trD]
        exact .tup upd_same (.cons (q3.mono n8) (.cons (q4.mono n8) (.cons (q5.mono n8) .nil)))
    refine ⟨_, rfl, _, 0, rfl, rfl, _, rfl, ?_⟩
    refine ite2 (fun hpos => ?_) (fun hneg => ?_)
    · have hpos : 0 < left := by have := of_decide_eq_true hpos; omega
      refine ⟨_, rfl, p, c, l, m, 4, rfl, S3, by omega, by omega, by omega, fun d1 H4 hd0 hd1 e4 S4 => ?_⟩
      refine ⟨_, 0, rfl, rfl, _, rfl, ?_⟩
      refine ite2 (fun _ => ?_) (fun _ => fin H4 (m + 1) (Nat.le_refl _) e4 S4)
      refine ⟨fun σ' H' => ∃ m', m' < left ∧ _, fun _ _ h => h, ?_⟩
      refine ⟨_, rfl, _, rfl, p, c, l, m + 1, (left : Int), rfl, S4, by omega, by omega, by omega, fun d2 H5 hd2 hd3 e5 S5 => ?_⟩
      have h45 := e4.trans e5
      have q2v := h3v.st S3 h45 (noL_dR _)
      refine ⟨1, d2, rfl, rfl, ?_⟩
      have hsz : ((d2.toNat + 1 : Nat) : Int) = 1 + d2 := by omega
      refine ⟨_, rfl, _, rfl, _, rfl, _, rfl, p, c, l, m + 2, v, us, d2.toNat + 1, by rw [hsz]; rfl, S5, by omega, q2v, hU, by omega, by omega, by omega, fun x6 t6 H6 m6 g6 lt6 ln6 hm6 e6 S6 a6 => ?_⟩
      have h46 := h45.trans e6
      have q5 := h35.st S3 h46 (by rw [noL]; exact noL_trDs un)
      refine ⟨small_ (by simp), fun t7 ht7 => ?_⟩
      have n7 := same_new (o := .tup [x6]) ht7
      obtain ⟨px, _, rfl, _⟩ := h35.of_tup
      have hul : un.length ≤ 3 := by have := len_kids (cs := un) (p := []) (i := 0); omega
      have htl : (trDs un).length = un.length := by rw [trDs_map, List.length_map]
      refine cat_tup (q5.mono n7) (At.tup (ds := [trD t6]) upd_same (.cons (a6.mono n7) .nil)) (by simp; omega) fun v8 H8 e8 a8 => ?_
      have n78 := n7.trans e8
      refine ⟨_, rfl, _, rfl, _, _, rfl, rfl, ?_⟩
      refine ⟨left - (d2.toNat + 1), by omega, v8, some (.int (1 + d2)), un ++ [t6], left - (d2.toNat + 1), m6, rfl, ?_, by omega, by omega, (e3.trans h46).trans (.of n78), S6.mono n78, (h3v.st S3 h46 (noL_dR _)).mono n78, (h33.st S3 h46 (noL_dR _)).mono n78, (h34.st S3 h46 (noL_dR _)).mono n78, ?_, goodAll_app hg (by simp only [GoodAll]; exact ⟨g6, trivial⟩), litAll_app hlit (by simp only [LitAll]; exact ⟨lt6, trivial⟩), ?_⟩
      · rw [show ((left - (d2.toNat + 1) : Nat) : Int) = (left : Int) - (1 + d2) by omega]
        rfl
      · rw [trDs_app]
        exact a8
      · rw [yss_app, List.length_append]
        simp only [yss, List.append_nil]
        rw [len_ysT t6 _ []]
        omega
    · exact fin H3 m (by omega) .refl S3
theorem sc_law_yards : FnScope ["_law_tree_so", "_law_path", "_law_found", "_law_index", "_law_yard"] ["_law_tree_so", "_law_path"] (defScope (top 59)) := ⟨rfl, rfl, rfl, by decide +kernel, rfl, by decide +kernel, by decide +kernel⟩
theorem ok_law_yards (B : Bi mg) (F : FnP K "_law_yards" (top 59) f fd) (hm : mg "_law_yards" = some (.ref f)) (hk : PySem.W.keepIn K (.ref f) = true) (hb : Binds K fd ["_law_tree_so", "_law_path"] []) :
    ∀ N, FnOk P w K mg base CX0 (N + 1) f fd ["_law_tree_so", "_law_path"] (spYardsL N)
  | 0 => ok0 F sc_law_yards (fun vs H Q E h => by obtain ⟨_, _, _, _, rfl, _⟩ := h; rfl) (fun cdv A' outer s0 H vs Q E hr h => by
    obtain ⟨_, _, _, _, rfl, _, _, h, _⟩ := h
    exact absurd h (Nat.not_lt_zero _))
  | N + 1 => by
    have C_law_yards : Cal P w K mg base CX0 (N + 1) "_law_yards" ["_law_tree_so", "_law_path"] (spYardsL N) := ⟨f, fd, ok_law_yards B F hm hk hb N, hm, hk, hb⟩
    refine ok0 F sc_law_yards (fun vs H Q E h => by obtain ⟨_, _, _, _, rfl, _⟩ := h; rfl) (fun cdv A' outer s0 H vs Q E hr h => ?_)
    obtain ⟨v, y, t, p, rfl, hv, hy, hN, hz, hpz, k⟩ := h
    refine ⟨(tSeq (tAsg (tLst (tCons (tTup (tCons (tVar 1) (tCons (tVar 0) tNil))) tNil)) (gName 2))
  (tSeq (tFor (iEnumT K (tCons (tOp (rIxT K) (tVar 0) (tC (.int 2))) tNil)) (gTup K 2 (gCons (gName 3) (gCons (gName 4) gNil))) (tAsg (tOp rCat (tVar 2) (tCall (spYardsL N) [] E0 (tCons (tVar 4) (tCons (tOp (rCatA K) (tVar 1) (tTup (tCons (tC (.int 2)) (tCons (tVar 3) tNil)))) tNil)))) (gName 2)))
  (tRet (tVar 2)))),
    (pss_cons (ps_set (i := 2) sc_law_yards.nd rfl (by first | exact Or.inl rfl | exact Or.inr rfl) (pe_lst (pa_cons (pe_tup (pa_cons (pv 1) (pa_cons (pv 0) pa_nil))) pa_nil)))
  (pss_cons (ps_for PassesOwn.never rfl (pi_enumT (by rfl) B.enumerate (pa_cons (pe_ix ix_tup (pv 0) pe_int (fun _ _ => rfl)) pa_nil)) (pg_tup rfl (pgs_cons (pg_name (i := 3) sc_law_yards.nd rfl (by first | exact Or.inl rfl | exact Or.inr rfl)) (pgs_cons (pg_name (i := 4) sc_law_yards.nd rfl (by first | exact Or.inl rfl | exact Or.inr rfl)) pgs_nil)))
  (pss_one (ps_set (i := 2) sc_law_yards.nd rfl (by first | exact Or.inl rfl | exact Or.inr rfl) (pe_op op_cat (pv 2) (pe_cal C_law_yards hr (by first | decide | omega) (by rfl) pass0 (pa_cons (pv 4) (pa_cons (pe_op op_catA (pv 1) (pe_tup (pa_cons pe_int (pa_cons (pv 3) pa_nil)))) pa_nil)))))))
  (pss_one (ps_ret (pv 2))))), ?_⟩
    obtain ⟨s, a, un⟩ := t
    have hrest : (ysT (.nd s a un) p) = (p, .nd s a un) :: yss un p 0 := by rw [ysT]
    have hlen : (ysT (.nd s a un) []).length = (yss un p 0).length + 1 := by rw [len_ysT _ [] p, hrest, List.length_cons]
    refine ⟨_, rfl, _, rfl, small_ (by simp), fun t1 ht1 => ⟨small_ (by simp), fun l hl => ?_⟩⟩
    have n1 := same_new (o := .tup [y, v]) ht1
    have n2 := same_new (o := .lst [.ref t1]) hl
    have hlH : H l = none := by
      cases h : H l with
      | none => rfl
      | some o => rw [n1 _ _ h] at hl; cases hl
    obtain ⟨p4, w0, w1, p6, ks, rfl, q4, v0, v1, q6, vks⟩ := hv.tr
    obtain ⟨py, rfl, hpy⟩ := hy.of_row
    have lks := vks.len
    rw [trDs_map, List.length_map] at lks
    have hkl : un.length ≤ 400 := by have := len_kids (cs := un) (p := p) (i := 0); omega
    refine ⟨_, rfl, p4, _, 2, _, rfl, rfl, sqT ((n1.trans n2) _ _ q4), atI_nat (j := 2) rfl, p6, ks, rfl, sqT ((n1.trans n2) _ _ q6), ?_⟩
    refine for_it (walk_enumT (xs := ks)) (fun i σ H' => ∃ (l' : Addr) (zs : List V) (y3 y4 : Option V), σ = [some (.ref p4), some (.ref py), some (.ref l'), y3, y4] ∧ Same H H' ∧ H l' = none ∧ H' l' = some (.lst zs) ∧ AtAll H' zs (((p, Tr.nd s a un) :: yss (un.take i) p 0).map itemT))
      ⟨l, _, none, none, rfl, n1.trans n2, hlH, upd_same, ?_⟩ (fun i σ H' _ h => ?_) ?_ ?_
    · simp only [List.take_zero, yss, List.map_cons, List.map_nil]
      exact .cons (.tup (n2 _ _ upd_same) (.cons (hy.mono (n1.trans n2)) (.cons (hv.mono (n1.trans n2)) .nil))) .nil
    · obtain ⟨_, _, _, _, _, e, _⟩ := h
      exact sqT (e _ _ q6)
    · rintro i x σ H1 H2 hi ⟨l', zs, y3, y4, rfl, e1, hl0, hl1, hzs⟩ ⟨T, x1, x2, rfl, nT, rfl, hx1, hx2⟩
      cases hx1
      rw [lks] at hi
      have cd : un[i]? = some (un[i]'hi) := List.getElem?_eq_getElem hi
      obtain ⟨d1, ed, a1⟩ := (vks.mono e1).getv hx2
      have ed' : (trDs un)[i]? = some (trD (un[i]'hi)) := by rw [trDs_map, List.getElem?_map, cd]; rfl
      rw [ed'] at ed
      cases ed
      have nn := same_new (o := .tup [.int (i : Nat), x2]) nT
      have et : un.take (i + 1) = un.take i ++ [un[i]'hi] := by rw [List.take_succ, cd]; rfl
      have hlc : (ysT (un[i]'hi) []).length ≤ (yss un p 0).length := len_child cd
      refine ⟨T, _, rfl, sqT upd_same, rfl, _, _, rfl, _, _, rfl, rfl, ?_⟩
      refine ⟨_, rfl, _, rfl, _, rfl, _, rfl, small_ (by simp), fun t7 ht7 => ?_⟩
      have n7 := nn.trans (same_new (o := .tup [.int 2, .int (i : Nat)]) ht7)
      refine cat_row ((hy.mono e1).mono n7) (At.row (l := [2, (i : Int)]) upd_same) (by simp; omega) fun vp H5 e5 ap => ?_
      have n75 := n7.trans e5
      refine ⟨x2, vp, un[i]'hi, p ++ [2, (i : Int)], rfl, a1.mono n75, ap, by omega, by omega, by simp; omega, fun q ws H6 e6 hq0 hq1 hws => ?_⟩
      have n76 := n75.trans e6
      have hl6 := n76 _ _ hl1
      have lz := hzs.len
      have lw := hws.len
      simp only [List.length_map, List.length_cons] at lz lw
      have l1 : (yss (un.take i) p 0).length ≤ (yss un p 0).length := by
        have := yss_app (a := un.take i) (b := un.drop i) (p := p) (i := 0)
        rw [List.take_append_drop] at this
        rw [this, List.length_append]
        omega
      have l2 : (ysT (un[i]'hi) (p ++ [2, (i : Int)])).length = (ysT (un[i]'hi) []).length := len_ysT _ _ _
      refine ⟨l', q, zs, ws, rfl, rfl, hl6, hq1, small_ (by omega), fun l8 hl8 => ?_⟩
      have n8 := same_new (o := .lst (zs ++ ws)) hl8
      refine ⟨l8, zs ++ ws, _, _, rfl, e1.trans (n76.trans n8), ?_, upd_same, ?_⟩
      · cases h : H l8 with
        | none => rfl
        | some o => rw [(e1.trans n76) _ _ h] at hl8; cases hl8
      · rw [et, yss_app, ← List.cons_append, List.map_append]
        refine AtAll.app (hzs.mono (n76.trans n8)) ?_
        simp only [yss, List.append_nil]
        rw [List.length_take, Nat.min_eq_left (by omega), Nat.zero_add]
        exact hws.mono n8
    · rintro σ H1 ⟨l', zs, y3, y4, rfl, e1, hl0, hl1, hzs⟩
      rw [List.take_of_length_le (by omega), ← hrest] at hzs
      exact ⟨_, rfl, k l' zs _ e1 hl0 hl1 hzs⟩
theorem sc_law_stocked : FnScope ["_law_tree_so", "_law_path", "_law_row_here", "_law_under"] ["_law_tree_so", "_law_path", "_law_row_here"] (defScope (top 65)) := ⟨rfl, rfl, rfl, by decide +kernel, rfl, by decide +kernel, by decide +kernel⟩
theorem ok_law_stocked (B : Bi mg) (C_law_beside : Cal P w K mg base CX0 1 "_law_beside" ["_law_one", "_law_other"] spAdd) (F : FnP K "_law_stocked" (top 65) f fd) (hm : mg "_law_stocked" = some (.ref f)) (hk : PySem.W.keepIn K (.ref f) = true) (hb : Binds K fd ["_law_tree_so", "_law_path", "_law_row_here"] []) :
    ∀ N, FnOk P w K mg base CX0 (N + 2) f fd ["_law_tree_so", "_law_path", "_law_row_here"] (spStkL N)
  | 0 => ok0 F sc_law_stocked (fun vs H Q E h => by obtain ⟨_, _, _, _, _, _, _, _, rfl, _⟩ := h; rfl) (fun cdv A' outer s0 H vs Q E hr h => by
    obtain ⟨_, _, _, _, _, _, _, _, rfl, _, _, _, _, _, _, h, _⟩ := h
    exact absurd h (Nat.not_lt_zero _))
  | N + 1 => by
    have C_law_stocked : Cal P w K mg base CX0 (N + 2) "_law_stocked" ["_law_tree_so", "_law_path", "_law_row_here"] (spStkL N) := ⟨f, fd, ok_law_stocked B C_law_beside F hm hk hb N, hm, hk, hb⟩
    refine ok0 F sc_law_stocked (fun vs H Q E h => by obtain ⟨_, _, _, _, _, _, _, _, rfl, _⟩ := h; rfl) (fun cdv A' outer s0 H vs Q E hr h => ?_)
    obtain ⟨v, y, x, us, t, s', r, row, rfl, hv, hy, hx, hg, hul, hrow, hN, hs, hz, k⟩ := h
    refine ⟨(tSeq (tIfS (tTest (tOp (rEqD K) (tVar 1) (tTup tNil))) (tRet (tTup (tCons (tCall spAdd [] E0 (tCons (tOp (rIxT K) (tVar 0) (tC (.int 0))) (tCons (tVar 2) tNil))) (tCons (tOp (rIxT K) (tVar 0) (tC (.int 1))) (tCons (tOp (rIxT K) (tVar 0) (tC (.int 2))) tNil))))) tNext)
  (tSeq (tAsg (tCB (rListQ K) (tCons (tOp (rIxT K) (tVar 0) (tC (.int 2))) tNil)) (gName 3))
  (tSeq (tAsg (tCall (spStkL N) [] E0 (tCons (tOp (rIxL K) (tVar 3) (tOp (rIxT K) (tVar 1) (tC (.int 1)))) (tCons (tSlF K (tVar 1) (tC (.int 2))) (tCons (tVar 2) tNil)))) (gSub (tVar 3) (tOp (rIxT K) (tVar 1) (tC (.int 1))) rSetL))
  (tRet (tTup (tCons (tOp (rIxT K) (tVar 0) (tC (.int 0))) (tCons (tOp (rIxT K) (tVar 0) (tC (.int 1))) (tCons (tCB (rTupQ K) (tCons (tVar 3) tNil)) tNil)))))))),
    (pss_cons (ps_if (pt_cmpR (op_eqD hr.units) (pv 1) (pe_tup pa_nil) (nomark _))
  (pss_one (ps_ret (pe_tup (pa_cons (pe_cal C_law_beside hr (by first | decide | omega) (by rfl) pass0 (pa_cons (pe_ix ix_tup (pv 0) pe_int (fun _ _ => rfl)) (pa_cons (pv 2) pa_nil))) (pa_cons (pe_ix ix_tup (pv 0) pe_int (fun _ _ => rfl)) (pa_cons (pe_ix ix_tup (pv 0) pe_int (fun _ _ => rfl)) pa_nil))))))
  pss_nil)
  (pss_cons (ps_set (i := 3) sc_law_stocked.nd rfl (by first | exact Or.inl rfl | exact Or.inr rfl) (pe_callTy call_listQ (by rfl) B.list (by decide +kernel) (pa_cons (pe_ix ix_tup (pv 0) pe_int (fun _ _ => rfl)) pa_nil)))
  (pss_cons (ps_asg (pe_cal C_law_stocked hr (by first | decide | omega) (by rfl) pass0 (pa_cons (pe_ix ix_list (pv 3) (pe_ix ix_tup (pv 1) pe_int (fun _ _ => rfl)) (fun _ _ => rfl)) (pa_cons (pe_slF (pv 1) pe_int) (pa_cons (pv 2) pa_nil)))) (pg_sub (pv 3) (pe_ix ix_tup (pv 1) pe_int (fun _ _ => rfl)) set_list))
  (pss_one (ps_ret (pe_tup (pa_cons (pe_ix ix_tup (pv 0) pe_int (fun _ _ => rfl)) (pa_cons (pe_ix ix_tup (pv 0) pe_int (fun _ _ => rfl)) (pa_cons (pe_callTy call_tupQ (by rfl) B.tuple (by decide +kernel) (pa_cons (pv 3) pa_nil)) pa_nil))))))))), ?_⟩
    refine ⟨_, rfl, small_ (by simp), fun t1 ht1 => ?_⟩
    have n1 := same_new (o := .tup []) ht1
    refine ⟨_, _, (hy.mono n1).dp, (At.row (l := []) upd_same).dp, shaped_dR _, shaped_dR _, _, rfl, ?_⟩
    rw [eqv_dR]
    obtain ⟨s, a, un⟩ := t
    simp only [Good] at hg
    obtain ⟨py, rfl, hpy⟩ := hy.of_row
    obtain ⟨p4, w0, w1, p6, ks, rfl, q4, v0, v1, q6, vks⟩ := hv.tr
    cases r with
    | nil =>
      refine iteT ⟨_, rfl, p4, _, 0, _, rfl, rfl, sqT (n1 _ _ q4), atI_nat (j := 0) rfl, _, rfl, _, _, s, row, rfl, v0.mono n1, hx.mono n1, by rw [hg.1.1, hrow.1], by rw [hg.1.1]; omega, fun v2 H2 e2 a2 => ?_⟩
      have n2 := n1.trans e2
      refine ⟨_, rfl, p4, _, 1, _, rfl, rfl, sqT (n2 _ _ q4), atI_nat (j := 1) rfl, _, rfl, p4, _, 2, _, rfl, rfl, sqT (n2 _ _ q4), atI_nat (j := 2) rfl, small_ (by simp), fun t3 ht3 => ?_⟩
      have n3 := same_new (o := .tup [v2, w1, .ref p6]) ht3
      refine k.go (n2.trans n3) ?_
      simp only [stk, trD]
      exact .tup upd_same (.cons (a2.mono n3) (.cons (v1.mono (n2.trans n3)) (.cons (.tup ((n2.trans n3) _ _ q6) (vks.mono (n2.trans n3))) .nil)))
    | cons i r =>
      rw [show (flat (i :: r) == []) = false from rfl]
      obtain ⟨c, hc, hsc⟩ : ∃ c, un[i]? = some c ∧ sub? r c = some s' := by
        simp only [sub?] at hs
        split at hs
        · cases hs
        · rename_i d hd
          exact ⟨d, hd, hs⟩
      have hlc : (ysT c []).length ≤ 400 ∧ un.length ≤ 400 := by
        have h1 := len_child (p := []) (i := 0) hc
        have h2 := len_kids (cs := un) (p := []) (i := 0)
        rw [ysT, List.length_cons] at hz
        omega
      have hc' : (trDs un)[i]? = some (trD c) := by rw [trDs_map, List.getElem?_map, hc]; rfl
      obtain ⟨z4, ez, az⟩ := vks.get hc'
      have lks := vks.len
      rw [trDs_map, List.length_map] at lks
      have hil := (List.getElem?_eq_some_iff.mp hc).1
      refine iteF ⟨_, rfl, p4, _, 2, _, rfl, rfl, sqT (n1 _ _ q4), atI_nat (j := 2) rfl, p6, ks, rfl, .inr (sqT (n1 _ _ q6)), fun l hl => ?_⟩
      have n2 := n1.trans (same_new (o := .lst ks) hl)
      have hlH : H l = none := by
        cases h : H l with
        | none => rfl
        | some o => rw [n1 _ _ h] at hl; cases hl
      have gi : ((flat (i :: r)).map V.int)[1]? = some (.int (i : Nat)) := rfl
      refine ⟨_, rfl, _, rfl, py, _, 1, .int (i : Nat), rfl, rfl, sqT (n2 _ _ hpy), atI_nat (j := 1) gi, l, ks, _, z4, rfl, rfl, sqL upd_same, atI_nat ez, ?_⟩
      refine ⟨_, rfl, 2, rfl, sl_from (k := 2) (hy.mono n2) fun vp H3 e3 ap => ?_⟩
      have n3 := n2.trans e3
      refine ⟨_, rfl, z4, vp, x, us, c, s', r, row, rfl, az.mono n3, ap, hx.mono n3, goodAll_get hg.2.2 hc, hul, hrow, by simp at hN; omega, hsc, hlc.1, fun v4 H4 e4 a4 => ?_⟩
      have n4 := n3.trans e4
      have l4 : H4 l = some (.lst ks) := (e3.trans e4) _ _ upd_same
      refine ⟨_, rfl, _, rfl, py, _, 1, .int (i : Nat), rfl, rfl, sqT (n4 _ _ hpy), atI_nat (j := 1) gi, l, ks, _, i, rfl, rfl, l4, ix_nat (by omega), ?_⟩
      have m5 : Same H (upd H4 l (.lst (ks.set i v4))) := same_mut n4 hlH
      have a5 : At (upd H4 l (.lst (ks.set i v4))) v4 (trD (stk row r c)) := a4.mut (nt_lst l4) (noL_trD _)
      have l5 : (upd H4 l (.lst (ks.set i v4))) l = some (.lst (ks.set i v4)) := upd_same
      generalize upd H4 l (.lst (ks.set i v4)) = H5 at m5 a5 l5 ⊢
      refine ⟨_, rfl, p4, _, 0, _, rfl, rfl, sqT (m5 _ _ q4), atI_nat (j := 0) rfl, _, rfl, p4, _, 1, _, rfl, rfl, sqT (m5 _ _ q4), atI_nat (j := 1) rfl, _, rfl, l, _, rfl, .inl ⟨sqL l5, fun t6 ht6 => ?_⟩⟩
      have n6 := same_new (o := .tup (ks.set i v4)) ht6
      refine ⟨small_ (by simp), fun t7 ht7 => ?_⟩
      have n7 := same_new (o := .tup [w0, w1, .ref t6]) ht7
      have n67 := n6.trans n7
      refine k.go (m5.trans n67) ?_
      simp only [stk, trD]
      refine .tup upd_same (.cons (v0.mono (m5.trans n67)) (.cons (v1.mono (m5.trans n67)) (.cons (.tup (n7 _ _ upd_same) ?_) .nil)))
      have vk := vks.mono (m5.trans n67)
      have em : ks.set i v4 = ks.take i ++ v4 :: ks.drop (i + 1) := by rw [List.set_eq_take_append_cons_drop, if_pos (by omega)]
      have fin := (vk.take i).app (.cons (a5.mono n67) (vk.drop (i + 1)))
      rw [← em] at fin
      rw [trDs_chg hc, List.append_assoc]
      exact fin
end
end K26
set_option Elab.async false
set_option linter.all false
set_option maxRecDepth 100000
set_option maxHeartbeats 4000000
namespace K26
open PySem PySem.Spec PyProof.Rows L2 RZ RT
/-! ## {t: v}, t a tuple -/
def tDispT1 (tk tv : TE) : TE := fun σ H Q => ∀ p, H p = none → tk σ (upd H p (.dT [])) fun x H1 => tv σ H1 fun y H2 => ∃ (b : Addr) (k : List Key), x = .ref b ∧ H2 b = some (.tup (k.map kV)) ∧ H2 p = some (.dT []) ∧ Q (.ref p) (upd H2 p (.dT [(k, y)]))
theorem pe_dispT1 {X : Cx} {pos : Pos} {k v : Expr} {tk tv : TE} (hu : X.A.units + 1 < cLine) (hk : PE X k tk) (hv : PE X v tv) : PE X (.Dict [some k] [v] pos) (tDispT1 tk tv) := by
  refine ⟨fun pins s σ H Q I q => ?_⟩
  have hn := I.hok.fresh (Nat.le_refl s.heap.objs.size)
  have I1 := I.laid (a := s.heap.objs.size) (o := .dT []) (h' := s.heap.push { cls := .type "dict", data := .dict #[] }) (t' := s.toks) (fun _ _ q => Heap.get?_push_of_some _ q) (Nat.le_refl _) (dt_empty s.heap I.big)
  have hlen : (pairTrees [some k] [v] X.env pos).length ≤ 15 := by rw [pairTrees_length _ _ X.env pos rfl rfl]; exact (by decide : 1 ≤ 15)
  have h0 : pairTrees [some k] [v] X.env pos ≠ [] := fun z => by
    have := pairTrees_length [some k] [v] X.env pos rfl rfl
    rw [z] at this
    cases this
  rw [arm_eval_Dict, zip_pairTrees [some k] [v] X.env pos rfl rfl, dictDisplay_pairs _ h0 (by omega)]
  refine wpAny_bind (wpAny_standAt (wpAny_bind (wpAny_subDictH (knd := tupleKind (mixKind X.prog X.w)) (Q := fun d s' => wpAny (model X.prog X.w) X.A (pure (Value.ref d)) _ _ s') (show X.A.units < cLine by omega) hlen
    (pairTrees_cons_walk (thn (hk.run pins _ σ _ _ I1 (q _ hn)) fun u s1 ⟨x, H1, I2, rx, q1⟩ => thn (hv.run pins s1 σ H1 _ I2 q1) fun w2 s2 ⟨y, H2, I3, ry, q2⟩ => pairTrees_nil_walk ?_)))))
  obtain ⟨b, kk, rfl, hb, hp, q3⟩ := q2
  cases (show u = Value.ref b from rx)
  obtain ⟨z, hd, xs, rel, dd⟩ := dt_of I3.hok hp
  cases rel
  refine ⟨[(kk, b, w2)], ⟨rfl, rfl, key_of I3.hok hb, trivial⟩, dd, fun h' tk dd' hs => wpAny_pure ?_⟩
  refine ⟨.ref s.heap.objs.size, _, ?_, rfl, q3⟩
  obtain ⟨qo, es, ep, hq, h2, h3, h4, _, h5⟩ := dd'
  refine d_write I3 (by rw [hp]; exact True.intro) hs ⟨qo, hq⟩ ⟨(by decide : 1 ≤ sizeLine), hd, _, ?_, qo, es, ep, hq, h2, h3, h4, h5⟩
  refine Paired.cons ⟨rfl, ?_, ry⟩ Paired.nil
  rw [upd_ne (ne_of hb hp (fun z => nomatch z))]
  exact hb
end K26
set_option Elab.async false
set_option linter.all false
set_option maxRecDepth 100000
set_option maxHeartbeats 4000000
namespace K26
open PySem PySem.Spec PyProof.Rows L2 RZ RT
/-! ## cuts: the plain law -/
def cutAt (us r : List Int) (j : Nat) : List Int := (r.set j (r.getD j 0 - 1)).set (j + 1) (r.getD (j + 1) 0 + us.getD j 0)
theorem cut_iff : ∀ {us r t : List Int}, r.length = us.length + 1 → (Cut us r t ↔ ∃ j, j < us.length ∧ 0 < r.getD j 0 ∧ t = cutAt us r j)
  | [], r, t, _ => by
    constructor
    · intro h; cases h
    · rintro ⟨j, h, _⟩; simp at h
  | u :: us, [], t, h => by simp at h
  | u :: us, [x], t, h => by simp at h
  | u :: us, x :: y :: rs, t, h => by
    constructor
    · intro k
      cases k with
      | here hx => exact ⟨0, by simp, by simpa using hx, by simp [cutAt]⟩
      | there k =>
        obtain ⟨j, h1, h2, h3⟩ := (cut_iff (by simpa using h)).mp k
        exact ⟨j + 1, by simpa using h1, by simpa using h2, by rw [h3]; simp [cutAt]⟩
    · rintro ⟨j, h1, h2, rfl⟩
      cases j with
      | zero => exact Cut.here (by simpa using h2)
      | succ j =>
        have : cutAt (u :: us) (x :: y :: rs) (j + 1) = x :: cutAt us (y :: rs) j := by simp [cutAt]
        rw [this]
        exact Cut.there ((cut_iff (by simpa using h)).mpr ⟨j, by simpa using h1, by simpa using h2, rfl⟩)
theorem dot_cut : ∀ {us r t : List Int}, Cut us r t → r.length = us.length + 1 → dot t (sizes us) = dot r (sizes us)
  | _, _, _, @Cut.here u us x y rs hx, h => by
    simp only [sizes]
    cases hs : sizes us with
    | nil => exact absurd hs (sizes_ne us)
    | cons z zs =>
      simp only [dot, List.headD_cons]
      rw [Int.sub_mul, Int.add_mul, Int.one_mul, Int.mul_comm z u]
      omega
  | _, _, _, @Cut.there u us x rs rs' k, h => by
    simp only [sizes, dot]
    rw [dot_cut k (by simpa using h)]
theorem reach_row {us r t : List Int} (h : Reach us r t) (hu : Ps us) (hr : Row us r) : Row us t ∧ tot us t = tot us r := by
  induction h with
  | refl => exact ⟨hr, rfl⟩
  | step h k ih =>
    obtain ⟨h1, h2⟩ := ih
    exact ⟨⟨by rw [cut_len k]; exact h1.1, cut_nn k hu h1.2⟩, by unfold tot at h2 ⊢; rw [dot_cut k h1.1, h2]⟩
theorem dot_nn : ∀ {r S : List Int}, Nn r → (∀ z ∈ S, 1 ≤ z) → r.length = S.length → 0 ≤ dot r S ∧ ∀ x ∈ r, x ≤ dot r S
  | [], [], _, _, _ => by simp [dot]
  | [], _ :: _, _, _, h => by simp at h
  | _ :: _, [], _, _, h => by simp at h
  | a :: r, z :: S, hn, hz, h => by
    have ih := dot_nn hn.2 (fun y hy => hz y (List.mem_cons_of_mem _ hy)) (by simpa using h)
    have h1 := hz z List.mem_cons_self
    have h2 : a ≤ a * z := by
      have := Int.mul_le_mul_of_nonneg_left h1 hn.1
      simpa using this
    have h0 := hn.1
    simp only [dot]
    refine ⟨by omega, fun x hx => ?_⟩
    rcases List.mem_cons.mp hx with rfl | hx
    · omega
    · have := ih.2 x hx
      omega
theorem row_bd {us r : List Int} (hU : Us us) (h : Row us r) : 0 ≤ tot us r ∧ ∀ x ∈ r, 0 ≤ x ∧ x ≤ tot us r := by
  have k := dot_nn h.2 (fun z hz => (hU.sz z hz).1) (by rw [sizes_len, h.1])
  refine ⟨k.1, fun x hx => ⟨?_, k.2 x hx⟩⟩
  have nn : ∀ {l : List Int}, Nn l → ∀ x ∈ l, 0 ≤ x := by
    intro l
    induction l with
    | nil => intro _ x hx; cases hx
    | cons a l ih =>
      intro h x hx
      rcases List.mem_cons.mp hx with rfl | hx
      · exact h.1
      · exact ih h.2 x hx
  exact nn h.2 x hx
theorem nodup_le {α : Type} [DecidableEq α] : ∀ {l c : List α}, l.Nodup → (∀ x ∈ l, x ∈ c) → l.length ≤ c.length
  | [], _, _, _ => Nat.zero_le _
  | x :: l, c, hn, h => by
    rw [List.nodup_cons] at hn
    have hx := h x List.mem_cons_self
    have ih := nodup_le (l := l) (c := c.erase x) hn.2 fun y hy => (List.mem_erase_of_ne (fun z : y = x => hn.1 (by rw [← z]; exact hy))).mpr (h y (List.mem_cons_of_mem _ hy))
    rw [List.length_erase_of_mem hx] at ih
    have : 1 ≤ c.length := List.length_pos_of_mem hx
    rw [List.length_cons]
    omega
/-- all lists of n numbers from 0 to B -/
def cands (B : Nat) : Nat → List (List Int)
  | 0 => [[]]
  | n + 1 => (List.range (B + 1)).flatMap fun i => (cands B n).map fun r => ((i : Nat) : Int) :: r
theorem cands_len (B : Nat) : ∀ n, (cands B n).length = (B + 1) ^ n
  | 0 => rfl
  | n + 1 => by
    have : ∀ (l : List Nat) (c : List (List Int)), (l.flatMap fun i => c.map fun r => ((i : Nat) : Int) :: r).length = l.length * c.length := by
      intro l c
      induction l with
      | nil => simp
      | cons a l ih => rw [List.flatMap_cons, List.length_append, ih, List.length_map, List.length_cons, Nat.succ_mul, Nat.add_comm]
    rw [cands, this, List.length_range, cands_len B n, Nat.pow_succ, Nat.mul_comm]
theorem mem_cands {B : Nat} : ∀ {r : List Int}, (∀ x ∈ r, 0 ≤ x ∧ x ≤ B) → r ∈ cands B r.length
  | [], _ => by simp [cands]
  | x :: r, h => by
    have hx := h x List.mem_cons_self
    rw [List.length_cons, cands, List.mem_flatMap]
    refine ⟨x.toNat, by rw [List.mem_range]; omega, ?_⟩
    rw [List.mem_map]
    exact ⟨r, mem_cands fun y hy => h y (List.mem_cons_of_mem _ hy), by rw [show ((x.toNat : Nat) : Int) = x by omega]⟩
/-- rows of few small units are few -/
theorem few_rows {us : List Int} {L : List (List Int)} (hl : us.length ≤ 2) (hn : L.Nodup) (h : ∀ t ∈ L, t.length = us.length + 1 ∧ ∀ x ∈ t, 0 ≤ x ∧ x ≤ 20) : L.length ≤ 9261 := by
  have k := nodup_le (c := cands 20 (us.length + 1)) hn fun t ht => by
    have := mem_cands (B := 20) (h t ht).2
    rwa [(h t ht).1] at this
  rw [cands_len] at k
  refine Nat.le_trans k ?_
  have : 21 ^ (us.length + 1) ≤ 21 ^ 3 := Nat.pow_le_pow_right (by decide) (by omega)
  exact this
theorem val_seen : ∀ {L : List (List Int)} {s : List Int}, valV (L.map fun t => (kR t, V.bl true)) (kR s) = if s ∈ L then some (.bl true) else none
  | [], s => by simp [valV]
  | t :: L, s => by
    rw [List.map_cons]
    by_cases e : kR t = kR s
    · have := kR_inj e
      subst this
      rw [valV_pos (p := (kR t, V.bl true)) rfl, if_pos List.mem_cons_self]
    · rw [valV_neg (p := (kR t, V.bl true)) e, val_seen]
      have ne : s ≠ t := fun z => e (by rw [z])
      simp [ne]
theorem put_new {kvs : List (List Key × V)} {k : List Key} {v : V} (h : valV kvs k = none) : putK kvs k v = kvs ++ [(k, v)] := by
  unfold putK
  rw [valV_any, h]
  rfl
theorem reach_closed {us r : List Int} {L : List (List Int)} (h0 : r ∈ L) (hc : ∀ t ∈ L, ∀ s, Cut us t s → s ∈ L) {t : List Int} (h : Reach us r t) : t ∈ L := by
  induction h with
  | refl => exact h0
  | step h k ih => exact hc _ ih _ k
end K26
set_option Elab.async false
set_option linter.all false
set_option maxRecDepth 100000
set_option maxHeartbeats 4000000
namespace K26
open PySem PySem.Spec PyProof.Rows L2 RZ RT
/-! ## cuts: the walk -/
def spCuts : Sp := fun vs H Q _ => ∃ (u v : V) (us r : List Int), vs = [u, v] ∧ At H u (dR us) ∧ Us us ∧ us.length ≤ 2 ∧ At H v (dR r) ∧ Row us r ∧ tot us r ≤ 20 ∧
  ∀ (p : Addr) (xs : List V) (H' : Hp) (L : List (List Int)), Same H H' → H p = none → H' p = some (.lst xs) → AtAll H' xs (L.map dR) → (∀ t, t ∈ L ↔ Reach us r t) → L.length ≤ 9261 → Q (.ref p) H'
theorem noL_rows (L : List (List Int)) : noLs (L.map dR) = true := noLs_all fun d hd => by
  obtain ⟨t, _, rfl⟩ := List.mem_map.mp hd
  exact noL_dR t
def seenK (L : List (List Int)) : List (List Key × V) := L.map fun t => (kR t, V.bl true)
theorem none_of {H H' : Hp} {a : Addr} (e : Same H H') (h : H' a = none) : H a = none := by
  cases z : H a with
  | none => rfl
  | some o => rw [e _ _ z] at h; cases h
section
variable {P : Program} {w : World} {K : PySem.W.Frag} {mg : Str → Option Value} {base : Heap} {f : Addr} {fd : FuncData} {A : XA}
theorem sc_law_cuts : FnScope ["_law_units_so", "_law_row_here", "_law_found", "_law_seen", "_law_at", "_law_here", "_law_place", "_law_near"] ["_law_units_so", "_law_row_here"] (defScope (top 53)) := ⟨rfl, rfl, rfl, by decide +kernel, rfl, by decide +kernel, by decide +kernel⟩
theorem ok_law_cuts (B : Bi mg) (F : FnP K "_law_cuts" (top 53) f fd) : FnOk P w K mg base CX0 1 f fd ["_law_units_so", "_law_row_here"] spCuts := by
  refine ok0 F sc_law_cuts (fun vs H Q E h => by obtain ⟨_, _, _, _, rfl, _⟩ := h; rfl) (fun cdv A outer s0 H vs Q E hr h => ?_)
  obtain ⟨u, v, us, r, rfl, hu, hU, hu2, hv, hrow, htot, k⟩ := h
  refine ⟨(tSeq (tPar3 2 3 4 (tCons (tLst (tCons (tVar 1) tNil)) (tCons (tDispT1 (tVar 1) (tC (.bl true))) (tCons (tC (.int 0)) tNil))))
  (tSeq (tWhile (tTest (tOp (rI0 fun i j => .bl (decide (i < j))) (tVar 4) (tCB (rLenQ K) (tCons (tVar 2) tNil)))) (tSeq (tPar 5 4 (tCons (tOp (rIxL K) (tVar 2) (tVar 4)) (tCons (tOp (rI0 fun i j => .int (i + j)) (tVar 4) (tC (.int 1))) tNil)))
  (tFor (iRng1 (tCons (tCB (rLenQ K) (tCons (tVar 0) tNil)) tNil)) (gName 6) (tIfS (tTest (tOp (rI0 fun i j => .bl (decide (j < i))) (tOp (rIxT K) (tVar 5) (tVar 6)) (tC (.int 0)))) (tSeq (tAsg (tCB (rListQ K) (tCons (tVar 5) tNil)) (gName 7))
  (tSeq (tAsg (tOp (rI0 fun i j => .int (i - j)) (tOp (rIxL K) (tVar 7) (tVar 6)) (tC (.int 1))) (gSub (tVar 7) (tVar 6) rSetL))
  (tSeq (tAsg (tOp (rI0 fun i j => .int (i + j)) (tOp (rIxL K) (tVar 7) (tOp (rI0 fun i j => .int (i + j)) (tVar 6) (tC (.int 1)))) (tOp (rIxT K) (tVar 0) (tVar 6))) (gSub (tVar 7) (tOp (rI0 fun i j => .int (i + j)) (tVar 6) (tC (.int 1))) rSetL))
  (tIfS (tB (tDNotIn (tCB (rTupQ K) (tCons (tVar 7) tNil)) (tVar 3))) (tSeq (sDPut (tVar 3) (tCB (rTupQ K) (tCons (tVar 7) tNil)) (tC (.bl true)))
  (tDrop (tBM K "list" rAppend (tVar 2) (tCons (tCB (rTupQ K) (tCons (tVar 7) tNil)) tNil)))) tNext)))) tNext))))
  (tRet (tVar 2)))),
    (pss_cons (ps_par3 (i := 2) (j := 3) (l := 4) rfl sc_law_cuts.nd rfl rfl rfl (by decide) (by decide) (by decide) rfl rfl rfl (pa_cons (pe_lst (pa_cons (pv 1) pa_nil)) (pa_cons (pe_dispT1 (hu_of hr) (pv 1) pe_bl) (pa_cons pe_int pa_nil))) (by rfl))
  (pss_cons (ps_while PassesOwn.never (pt_cmpR op_lt (pv 4) (pe_callB call_lenQ (by rfl) B.len (by decide +kernel) (pa_cons (pv 2) pa_nil)) (nomark _))
  (pss_cons (ps_par (i := 5) (j := 4) rfl sc_law_cuts.nd rfl rfl (by decide) rfl rfl (pa_cons (pe_ix ix_list (pv 2) (pv 4) (fun _ _ => rfl)) (pa_cons (pe_op op_add (pv 4) pe_int) pa_nil)) (by rfl))
  (pss_one (ps_for PassesOwn.never rfl (pi_range1 (by rfl) B.range (pa_cons (pe_callB call_lenQ (by rfl) B.len (by decide +kernel) (pa_cons (pv 0) pa_nil)) pa_nil)) (pg_name (i := 6) sc_law_cuts.nd rfl (by first | exact Or.inl rfl | exact Or.inr rfl))
  (pss_one (ps_if (pt_cmpR op_gt (pe_ix ix_tup (pv 5) (pv 6) (fun _ _ => rfl)) pe_int (nomark _))
  (pss_cons (ps_set (i := 7) sc_law_cuts.nd rfl (by first | exact Or.inl rfl | exact Or.inr rfl) (pe_callTy call_listQ (by rfl) B.list (by decide +kernel) (pa_cons (pv 5) pa_nil)))
  (pss_cons (ps_asg (pe_op op_sub (pe_ix ix_list (pv 7) (pv 6) (fun _ _ => rfl)) pe_int) (pg_sub (pv 7) (pv 6) set_list))
  (pss_cons (ps_asg (pe_op op_add (pe_ix ix_list (pv 7) (pe_op op_add (pv 6) pe_int) (fun _ _ => rfl)) (pe_ix ix_tup (pv 0) (pv 6) (fun _ _ => rfl))) (pg_sub (pv 7) (pe_op op_add (pv 6) pe_int) set_list))
  (pss_one (ps_if (pt_cmp (pc_dnotin (hu_of hr) (pe_callTy call_tupQ (by rfl) B.tuple (by decide +kernel) (pa_cons (pv 7) pa_nil)) (pv 3)))
  (pss_cons (ps_dput (hu_of hr) (pv 3) (pe_callTy call_tupQ (by rfl) B.tuple (by decide +kernel) (pa_cons (pv 7) pa_nil)) pe_bl rfl)
  (pss_one (ps_expr (pe_bm PySem.F.plainAttrs_list PySem.F.slot_list_append PySem.F.type_list_append mt_append (pv 2) (pa_cons (pe_callTy call_tupQ (by rfl) B.tuple (by decide +kernel) (pa_cons (pv 7) pa_nil)) pa_nil)))))
  pss_nil)))))
  pss_nil))))))
  (pss_one (ps_ret (pv 2))))), ?_⟩
  obtain ⟨pu, rfl, hpu⟩ := hu.of_row
  obtain ⟨pv, rfl, hpv⟩ := hv.of_row
  have bnd : ∀ L : List (List Int), L.Nodup → (∀ t ∈ L, Reach us r t) → L.length ≤ 9261 := fun L hn hre => few_rows hu2 hn fun t ht => by
    have h1 := reach_row (hre t ht) hU.ps hrow
    have h2 := row_bd hU h1.1
    exact ⟨h1.1.1, fun x hx => ⟨(h2.2 x hx).1, by have := (h2.2 x hx).2; omega⟩⟩
  refine ⟨_, rfl, small_ (by simp), fun lf hlf => ?_⟩
  have n1 := same_new (o := .lst [.ref pv]) hlf
  refine fun ls hls => ⟨_, rfl, pv, kR r, rfl, ?_, upd_same, ?_⟩
  · rw [kR_V]; exact (same_new (o := .dT []) hls) _ _ (n1 _ _ hpv)
  have nfs : lf ≠ ls := ne_of_none upd_same hls
  have hlsH := none_of n1 hls
  refine ⟨_, _, _, rfl, ?_⟩
  refine ⟨fun m σ H' => ∃ (y5 y6 y7 : Option V) (L : List (List Int)) (xs : List V) (at' : Nat), σ = [some (.ref pu), some (.ref pv), some (.ref lf), some (.ref ls), some (.int (at' : Int)), y5, y6, y7] ∧ Same H H' ∧ H' lf = some (.lst xs) ∧ AtAll H' xs (L.map dR) ∧ H' ls = some (.dT (seenK L)) ∧
      L.Nodup ∧ (∀ t ∈ L, Reach us r t) ∧ r ∈ L ∧ at' ≤ L.length ∧ (∀ i < at', ∀ t s, L[i]? = some t → Cut us t s → s ∈ L) ∧ m = 10000 - at',
    ⟨10000, none, none, none, [r], [.ref pv], 0, rfl, ?_, ?_, ?_, upd_same, by simp, by simpa using Reach.refl r, by simp, by simp, fun i hi => absurd hi (Nat.not_lt_zero _), rfl⟩, ?_⟩
  · exact same_mut (n1.trans (same_new hls)) hlsH
  · rw [upd_ne nfs]
    exact same_new hls _ _ upd_same
  · exact AtAll.one (At.mut (fun ys z => by rw [upd_same] at z; cases z) (hv.mono (n1.trans (same_new hls))) (noL_dR _))
  rintro _ σ H2 ⟨y5, y6, y7, L, xs, at', rfl, e2, hf, hL, hsn, hnd, hre, hr0, hat, hcl, rfl⟩
  have lx := hL.len
  rw [List.length_map] at lx
  have hbl := bnd L hnd hre
  refine ⟨_, rfl, _, rfl, lf, xs, rfl, .inl (sqL hf), _, _, rfl, rfl, _, rfl, ?_⟩
  refine ite2 (fun hlt => ?_) (fun hge => ?_)
  · have hlt : at' < L.length := by have := of_decide_eq_true hlt; omega
    refine ⟨fun σ' H' => ∃ m', m' < 10000 - at' ∧ _, fun _ _ h => h, ?_⟩
    have ct : L[at']? = some (L[at']'hlt) := List.getElem?_eq_getElem hlt
    obtain ⟨t0, ht0⟩ : ∃ t0, L[at']? = some t0 := ⟨_, ct⟩
    have hm0 : t0 ∈ L := List.mem_of_getElem? ht0
    have rt0 := (reach_row (hre t0 hm0) hU.ps hrow).1
    obtain ⟨vh, evh, avh⟩ := hL.get (i := at') (d := dR t0) (by rw [List.getElem?_map, ht0]; rfl)
    refine ⟨_, rfl, _, rfl, lf, xs, _, vh, rfl, rfl, sqL hf, atI_nat evh, _, rfl, _, 1, rfl, rfl, _, _, rfl, ?_⟩
    obtain ⟨ph, rfl, hph⟩ := avh.of_row
    refine ⟨_, rfl, pu, _, rfl, .inr (sqT (e2 _ _ hpu)), _, rfl, (by rw [List.length_map]; omega), (by rw [List.length_map]; omega), ?_⟩
    have el : (((us.map V.int).length : Nat) : Int).toNat = us.length := by simp
    rw [el]
    refine for_it walk_range (fun j σ H' => ∃ (z6 z7 : Option V) (L' : List (List Int)) (xs' : List V), σ = [some (.ref pu), some (.ref pv), some (.ref lf), some (.ref ls), some (.int ((at' : Int) + 1)), some (.ref ph), z6, z7] ∧ Same H H' ∧ H' lf = some (.lst xs') ∧ AtAll H' xs' (L'.map dR) ∧ H' ls = some (.dT (seenK L')) ∧
        L'.Nodup ∧ (∀ t ∈ L', Reach us r t) ∧ (∃ M, L' = L ++ M) ∧ At H' (.ref ph) (dR t0) ∧ (∀ j' < j, 0 < t0.getD j' 0 → cutAt us t0 j' ∈ L'))
      ⟨y6, y7, L, xs, rfl, e2, hf, hL, hsn, hnd, hre, ⟨[], by simp⟩, avh, fun j' hj' => absurd hj' (Nat.not_lt_zero _)⟩ (fun _ _ _ _ _ => trivial) ?_ ?_
    · rintro j x σ H3o H3 hj ⟨z6, z7, L', xs', rfl, e3, hf3, hL3, hsn3, hnd3, hre3, ⟨M, hM⟩, hh3, hcut⟩ ⟨rfl, rfl⟩
      have lx3 := hL3.len
      rw [List.length_map] at lx3
      have hbl3 := bnd L' hnd3 hre3
      have hph3 := hh3.row_tup
      have hj1 : j < t0.length := by rw [rt0.1]; omega
      have hj2 : j + 1 < t0.length := by rw [rt0.1]; omega
      have gj : t0[j]? = some (t0.getD j 0) := by rw [List.getD_eq_getElem?_getD, List.getElem?_eq_getElem hj1]; rfl
      have gj2 : t0[j + 1]? = some (t0.getD (j + 1) 0) := by rw [List.getD_eq_getElem?_getD, List.getElem?_eq_getElem hj2]; rfl
      have guj : us[j]? = some (us.getD j 0) := by rw [List.getD_eq_getElem?_getD, List.getElem?_eq_getElem hj]; rfl
      dsimp only
      rw [Int.zero_add]
      refine ⟨_, rfl, _, rfl, ph, _, _, _, rfl, rfl, sqT hph3, atI_nat (getT gj), _, 0, rfl, rfl, _, rfl, ?_⟩
      refine ite2 (fun hpos => ?_) (fun hneg => ?_)
      · have hpos : 0 < t0.getD j 0 := of_decide_eq_true hpos
        refine ⟨_, rfl, ph, _, rfl, .inr (sqT hph3), fun ln hln => ?_⟩
        have hlnH := none_of e3 hln
        have n4 := same_new (o := .lst (t0.map V.int)) hln
        have nlf : lf ≠ ln := ne_of_none hf3 hln
        have nls : ls ≠ ln := ne_of_none hsn3 hln
        refine ⟨_, rfl, _, rfl, ln, _, _, _, rfl, rfl, sqL upd_same, atI_nat (getT gj), _, 1, rfl, rfl, _, rfl, _, rfl, ln, _, _, j, rfl, rfl, upd_same, ix_nat (by rw [List.length_map]; exact hj1), ?_⟩
        have gj3 : ((t0.map V.int).set j (.int (t0.getD j 0 - 1)))[j + 1]? = some (.int (t0.getD (j + 1) 0)) := by
          rw [List.getElem?_set_ne (by omega), List.getElem?_map, gj2]
          rfl
        have e5 : Same H (upd (upd H3 ln (.lst (t0.map V.int))) ln (.lst ((t0.map V.int).set j (.int (t0.getD j 0 - 1))))) := same_mut (e3.trans n4) hlnH
        refine ⟨_, rfl, _, rfl, _, 1, rfl, rfl, ln, _, _, _, rfl, rfl, sqL upd_same, atI_nat (j := j + 1) gj3, _, rfl, _, rfl, pu, _, _, _, rfl, rfl, sqT (e5 _ _ hpu), atI_nat (getT guj), _, _, rfl, rfl, _, rfl, _, rfl, _, 1, rfl, rfl, ln, _, _, j + 1, rfl, rfl, upd_same, ?_, ?_⟩
        · exact ix_nat (j := j + 1) (by rw [List.length_set, List.length_map]; exact hj2)
        have ecut : ((t0.map V.int).set j (.int (t0.getD j 0 - 1))).set (j + 1) (.int (t0.getD (j + 1) 0 + us.getD j 0)) = (cutAt us t0 j).map V.int := by
          unfold cutAt
          rw [List.map_set, List.map_set]
        have H6e : ∃ H6, H6 = upd (upd (upd H3 ln (.lst (t0.map V.int))) ln (.lst ((t0.map V.int).set j (.int (t0.getD j 0 - 1))))) ln (.lst ((cutAt us t0 j).map V.int)) := ⟨_, rfl⟩
        dsimp only
        rw [ecut]
        obtain ⟨H6, hH6⟩ := H6e
        rw [← hH6]
        have e6 : Same H3 H6 := by
          rw [hH6]
          refine fun b o h => ?_
          have : b ≠ ln := ne_of_none h hln
          rw [upd_ne this, upd_ne this, upd_ne this, h]
        have ln6 : H6 ln = some (.lst ((cutAt us t0 j).map V.int)) := by rw [hH6, upd_same]
        clear hH6 n4 e5
        have e36 := e3.trans e6
        have hcr : Cut us t0 (cutAt us t0 j) := (cut_iff rt0.1).mpr ⟨j, hj, hpos, rfl⟩
        have hreach : Reach us r (cutAt us t0 j) := .step (hre t0 hm0) hcr
        -- tuple(near) not in seen
        refine ⟨_, rfl, ln, _, rfl, .inl ⟨sqL ln6, fun t7 ht7 => ?_⟩⟩
        have n7 := same_new (o := .tup ((cutAt us t0 j).map V.int)) ht7
        have hsn7 := (e6.trans n7) _ _ hsn3
        refine ⟨_, rfl, ls, _, rfl, DGet.t (k := kR (cutAt us t0 j)) hsn7 (by rw [kR_V]; exact upd_same), _, rfl, ?_⟩
        have vs := val_seen (L := L') (s := cutAt us t0 j)
        rw [show seenK L' = L'.map (fun t => (kR t, V.bl true)) from rfl, vs]
        by_cases hin : cutAt us t0 j ∈ L'
        · rw [if_pos hin]
          refine iteF ⟨_, _, L', xs', rfl, e36.trans n7, (e6.trans n7) _ _ hf3, hL3.mono (e6.trans n7), hsn7, hnd3, hre3, ⟨M, hM⟩, hh3.mono (e6.trans n7), fun j' hj' hp' => ?_⟩
          rcases Nat.lt_succ_iff_lt_or_eq.mp hj' with hj' | rfl
          · exact hcut j' hj' hp'
          · exact hin
        · rw [if_neg hin]
          refine iteT ?_
          rw [if_neg hin] at vs
          -- seen[..] = True
          have ln7 := n7 _ _ ln6
          refine ⟨_, rfl, _, rfl, ln, _, rfl, .inl ⟨sqL ln7, fun t8 ht8 => ?_⟩⟩
          have n8 := same_new (o := .tup ((cutAt us t0 j).map V.int)) ht8
          have hsn8 := n8 _ _ hsn7
          refine ⟨ls, _, rfl, DPut.t (k := kR (cutAt us t0 j)) hsn8 (by rw [kR_V]; exact upd_same) (small' (by unfold seenK; rw [List.length_map]; omega)), ?_⟩
          rw [show seenK L' = L'.map (fun t => (kR t, V.bl true)) from rfl, put_new vs]
          have es : L'.map (fun t => (kR t, V.bl true)) ++ [(kR (cutAt us t0 j), V.bl true)] = seenK (L' ++ [cutAt us t0 j]) := by unfold seenK; rw [List.map_append]; rfl
          rw [es]
          have e38 := e6.trans (n7.trans n8)
          have nts : NT (upd (upd H6 t7 (.tup ((cutAt us t0 j).map V.int))) t8 (.tup ((cutAt us t0 j).map V.int))) ls := fun ys z => by rw [hsn8] at z; cases z
          have f9 : Same H (upd (upd (upd H6 t7 (.tup ((cutAt us t0 j).map V.int))) t8 (.tup ((cutAt us t0 j).map V.int))) ls (.dT (seenK (L' ++ [cutAt us t0 j])))) := same_mut (e3.trans e38) hlsH
          have hf9 : (upd (upd (upd H6 t7 (.tup ((cutAt us t0 j).map V.int))) t8 (.tup ((cutAt us t0 j).map V.int))) ls (.dT (seenK (L' ++ [cutAt us t0 j])))) lf = some (.lst xs') := by rw [upd_ne nfs]; exact e38 _ _ hf3
          have hL9 : AtAll (upd (upd (upd H6 t7 (.tup ((cutAt us t0 j).map V.int))) t8 (.tup ((cutAt us t0 j).map V.int))) ls (.dT (seenK (L' ++ [cutAt us t0 j])))) xs' (L'.map dR) := (hL3.mono e38).mut nts (noL_rows L')
          have hh9 : At (upd (upd (upd H6 t7 (.tup ((cutAt us t0 j).map V.int))) t8 (.tup ((cutAt us t0 j).map V.int))) ls (.dT (seenK (L' ++ [cutAt us t0 j])))) (.ref ph) (dR t0) := (hh3.mono e38).mut nts (noL_dR _)
          have ln9 : (upd (upd (upd H6 t7 (.tup ((cutAt us t0 j).map V.int))) t8 (.tup ((cutAt us t0 j).map V.int))) ls (.dT (seenK (L' ++ [cutAt us t0 j])))) ln = some (.lst ((cutAt us t0 j).map V.int)) := by rw [upd_ne (Ne.symm nls)]; exact n8 _ _ ln7
          have ls9 : (upd (upd (upd H6 t7 (.tup ((cutAt us t0 j).map V.int))) t8 (.tup ((cutAt us t0 j).map V.int))) ls (.dT (seenK (L' ++ [cutAt us t0 j])))) ls = some (.dT (seenK (L' ++ [cutAt us t0 j]))) := upd_same
          generalize upd (upd (upd H6 t7 (.tup ((cutAt us t0 j).map V.int))) t8 (.tup ((cutAt us t0 j).map V.int))) ls (.dT (seenK (L' ++ [cutAt us t0 j]))) = H9 at f9 hf9 hL9 hh9 ln9 ls9 ⊢
          -- found.append
          refine ⟨_, rfl, .inl ⟨rfl, _, sqL hf9⟩, _, rfl, ln, _, rfl, .inl ⟨sqL ln9, fun t10 ht10 => ?_⟩⟩
          have n10 := same_new (o := .tup ((cutAt us t0 j).map V.int)) ht10
          have hf10 := n10 _ _ hf9
          have hlfH : H lf = none := hlf
          refine ⟨lf, xs', _, rfl, rfl, hf10, small' (by omega), _, _, L' ++ [cutAt us t0 j], xs' ++ [.ref t10], rfl, same_mut (f9.trans n10) hlfH, upd_same, ?_, ?_, ?_, ?_, ⟨M ++ [cutAt us t0 j], by rw [hM, List.append_assoc]⟩, (hh9.mono n10).mut (nt_lst hf10) (noL_dR _), ?_⟩
          · rw [List.map_append]
            exact ((hL9.mono n10).mut (nt_lst hf10) (noL_rows L')).app (AtAll.one ((At.row upd_same).mut (nt_lst hf10) (noL_dR _)))
          · rw [upd_ne (Ne.symm nfs)]
            exact n10 _ _ ls9
          · rw [List.nodup_append]
            refine ⟨hnd3, by simp, fun a ha b hb => ?_⟩
            rw [List.mem_singleton] at hb
            subst hb
            exact fun z => hin (by rw [← z]; exact ha)
          · intro t ht
            rcases List.mem_append.mp ht with ht | ht
            · exact hre3 t ht
            · rw [List.mem_singleton] at ht
              rw [ht]
              exact hreach
          · intro j' hj' hp'
            rcases Nat.lt_succ_iff_lt_or_eq.mp hj' with hj' | rfl
            · exact List.mem_append_left _ (hcut j' hj' hp')
            · exact List.mem_append_right _ (by simp)
      · refine ⟨_, _, L', xs', rfl, e3, hf3, hL3, hsn3, hnd3, hre3, ⟨M, hM⟩, hh3, fun j' hj' hp' => ?_⟩
        rcases Nat.lt_succ_iff_lt_or_eq.mp hj' with hj' | rfl
        · exact hcut j' hj' hp'
        · exact absurd (decide_eq_true hp') hneg
    · rintro σ H3 ⟨z6, z7, L', xs', rfl, e3, hf3, hL3, hsn3, hnd3, hre3, ⟨M, hM⟩, hh3, hcut⟩
      have hL'l : L.length ≤ L'.length := by rw [hM, List.length_append]; omega
      refine ⟨10000 - (at' + 1), by omega, _, _, _, L', xs', at' + 1, rfl, e3, hf3, hL3, hsn3, hnd3, hre3, by rw [hM]; exact List.mem_append_left _ hr0, by omega, fun i hi t s hti hcs => ?_, rfl⟩
      have hpre : L'[i]? = L[i]? := by rw [hM, List.getElem?_append_left (by omega)]
      rw [hpre] at hti
      rcases Nat.lt_succ_iff_lt_or_eq.mp hi with hi | rfl
      · rw [hM]
        exact List.mem_append_left _ (hcl i hi t s hti hcs)
      · rw [ht0] at hti
        cases hti
        obtain ⟨j, hj1, hj2, rfl⟩ := (cut_iff rt0.1).mp hcs
        exact hcut j hj1 hj2
  · have hge : L.length ≤ at' := by
      have : ¬ ((at' : Int) < (xs.length : Nat)) := fun z => hge (decide_eq_true z)
      omega
    refine ⟨_, rfl, k lf xs _ L e2 hlf hf hL (fun t => ⟨hre t, fun ht => reach_closed hr0 (fun t ht s hs => ?_) ht⟩) hbl⟩
    obtain ⟨i, hi, rfl⟩ := List.mem_iff_getElem.mp ht
    exact hcl i (by omega) _ s (List.getElem?_eq_getElem hi) hs
end
end K26
set_option Elab.async false
set_option linter.all false
set_option maxRecDepth 100000
set_option maxHeartbeats 4000000
namespace K26
open PySem PySem.Spec PyProof.Rows L2 RZ RT
/-! ## sorted, rows -/
def rSortR : List V → Hp → VK → Prop := fun vs H Q => ∃ (a : Addr) (xs : List V) (L : List (List Int)), vs = [.ref a] ∧ H a = some (.lst xs) ∧ AtAll H xs (L.map dR) ∧ (∀ t ∈ L, t ≠ []) ∧ ∀ ys p, ys.Perm xs → H p = none → Q (.ref p) (upd H p (.lst ys))
theorem atAll_mem {H : Hp} : ∀ {xs : List V} {ds : List PyData} {x : V}, AtAll H xs ds → x ∈ xs → ∃ d ∈ ds, At H x d
  | _, _, _, .nil, h => by cases h
  | _, _, x, .cons (d := d) h k, hx => by
    rcases List.mem_cons.mp hx with rfl | hx
    · exact ⟨d, List.mem_cons_self, h⟩
    · obtain ⟨e, h1, h2⟩ := atAll_mem k hx
      exact ⟨e, List.mem_cons_of_mem _ h1, h2⟩
theorem atAll_perm {H : Hp} {ys xs : List V} (p : ys.Perm xs) : ∀ {L : List (List Int)}, AtAll H xs (L.map dR) → ∃ M : List (List Int), M.Perm L ∧ AtAll H ys (M.map dR) := by
  induction p with
  | nil => exact fun h => ⟨_, List.Perm.refl _, h⟩
  | cons x p ih =>
    intro L h
    cases L with
    | nil => cases h
    | cons t L =>
      cases h with
      | cons h k =>
        obtain ⟨es, h1, h2⟩ := ih k
        exact ⟨t :: es, h1.cons _, .cons h h2⟩
  | swap x y l =>
    intro L h
    match L, h with
    | t :: s :: L, .cons h (.cons h2 k) => exact ⟨s :: t :: L, List.Perm.swap _ _ _, .cons h2 (.cons h k)⟩
  | trans p q ih1 ih2 =>
    intro L h
    obtain ⟨es, h1, h2⟩ := ih2 h
    obtain ⟨fs, h3, h4⟩ := ih1 h2
    exact ⟨fs, h3.trans h1, h4⟩
theorem items_ints : ∀ {l : List Int} {us : List Value} (i : Nat), Vals (l.map V.int) us → tupItems (fun _ => false) i us = some (l.map Sum.inl)
  | [], _, _, h => by cases h; rfl
  | z :: l, _, i, h => by
    cases h with
    | cons h k =>
      obtain ⟨t, rfl⟩ := h
      simp only [tupItems, Bool.false_eq_true, if_false, items_ints (i + 1) k, Option.map_some, List.map_cons]
theorem call_sortR {X : Cx} : CallR X (.builtin "sorted") rSortR := by
  intro pins s σ H vs us Q I r h
  obtain ⟨a, xs, L, rfl, hs, hx, hne, q⟩ := h
  obtain ⟨its, rv, hl, hz⟩ := I.list (sqL hs)
  obtain ⟨u, rfl, ru⟩ := vals1 r
  obtain rfl : u = Value.ref a := ru
  have row : ∀ x ∈ xs, ∃ (t : Addr) (l : List Int), x = .ref t ∧ l ≠ [] ∧ H t = some (.tup (l.map V.int)) := fun x m => by
    obtain ⟨d, hd, h⟩ := atAll_mem hx m
    obtain ⟨l, hl, rfl⟩ := List.mem_map.mp hd
    obtain ⟨t, rfl, ht⟩ := h.of_row
    exact ⟨t, l, rfl, hne l hl, ht⟩
  obtain ⟨e1, e2⟩ := refs_back rv fun x m => by
    obtain ⟨t, _, e, _⟩ := row x m
    exact ⟨t, e⟩
  have at_ : ∀ v ∈ its, ∃ (t : Addr) (o : Obj) (l : List Int) (us : List Value) (n : Nat), v = .ref t ∧ s.heap.get? t = some o ∧ o.cls = .type "tuple" ∧ o.data = .seq us.toArray n ∧ l ≠ [] ∧ Vals (l.map V.int) us := fun v hv => by
    obtain ⟨t, rfl⟩ := e2 v hv
    have hm : V.ref t ∈ xs := by rw [e1]; exact List.mem_map.mpr ⟨_, hv, rfl⟩
    obtain ⟨t', l, e, hl0, ht⟩ := row _ hm
    cases e
    obtain ⟨_, its2, r2, o, ho, hc, n, hd⟩ := I.hok _ _ ht
    exact ⟨t, o, l, its2, n, rfl, ho, hc, hd, hl0, r2⟩
  have tups : ∀ l : List Value, (∀ v ∈ l, v ∈ its) → ∃ fs, TupsOf s.heap (fun _ => false) l fs := by
    intro l
    induction l with
    | nil => exact fun _ => ⟨[], .nil⟩
    | cons v l ih =>
      intro hl
      obtain ⟨fs, hfs⟩ := ih fun x hx => hl x (List.mem_cons_of_mem _ hx)
      obtain ⟨t, o, l', us, n, rfl, ho, hc, hd, hl0, r2⟩ := at_ v (hl v List.mem_cons_self)
      cases l' with
      | nil => exact absurd rfl hl0
      | cons z zs =>
        cases r2 with
        | cons h1 h2 =>
          obtain ⟨tk, rfl⟩ := h1
          exact ⟨_ :: fs, .cons ⟨t, o, _, n, rfl, ho, hc, hd, rfl, fun _ => ⟨_, _, rfl⟩, fun z => by cases z⟩ hfs⟩
  obtain ⟨fs, hfs⟩ := tups its fun _ h => h
  refine PyProof.Rows.G.sorted_tups hl.isList hfs (fun v hv => ?_) (by rw [← rv.length]; exact hz) fun st' hp _ _ => ?_
  · obtain ⟨t, o, l', us, n, rfl, ho, hc, hd, hl0, r2⟩ := at_ v hv
    refine ⟨l'.map Sum.inl, ?_⟩
    unfold PyProof.Rows.G.tupKeyC
    have h1 : PyProof.Rows.G.isTupObj s.heap (.ref t) = true := by
      unfold PyProof.Rows.G.isTupObj
      simp only [ho, hc]
      rfl
    rw [if_pos h1]
    unfold tupKey
    simp only [ho, hd]
    exact items_ints 0 r2
  · have hp2 : ((arrOf st').map (·.2)).toList.Perm its := by
      have h1 := (Array.perm_iff_toList_perm.mp hp).map (fun x : Keyed => x.2)
      rw [pairsOf_toList] at h1
      rw [Array.toList_map]
      refine h1.trans ?_
      rw [List.map_snd_zip (Nat.le_refl _)]
    have h3 : ∀ u ∈ ((arrOf st').map (·.2)).toList, ∃ a, u = Value.ref a := fun u hu => e2 u (hp2.mem_iff.mp hu)
    obtain ⟨n, hn⟩ := sortedAll_at s.heap its ((arrOf st').map (·.2))
    have hd : s.heap.objs.size ≤ s.heap.objs.size + 1 := Nat.le_succ _
    refine ⟨.ref (s.heap.objs.size + 1), upd H (s.heap.objs.size + 1) (.lst (((arrOf st').map (·.2)).toList.map backV)), I.laid (t' := s.toks) (fun b o e => sortedAll_old e) hd ⟨?_, ((arrOf st').map (·.2)).toList, n, vals_back h3, hn⟩, rfl, q _ _ ?_ (I.hok.fresh hd)⟩
    · rw [List.length_map, hp2.length_eq, ← rv.length]; exact hz
    · rw [e1]; exact hp2.map backV
end K26
set_option Elab.async false
set_option linter.all false
set_option maxRecDepth 100000
set_option maxHeartbeats 4000000
namespace K26
open PySem PySem.Spec PyProof.Rows L2 RZ RT
/-! ## fits, lefts, parts, all_rows -/
theorem hu65_of {A : Around} {k : Nat} (hr : Room k A) : A.units + 65 < cLine := by
  have := hr.un
  omega
theorem min_neg {n : Int} {ns : List Int} : decide (0 ≤ ns.foldl min n) = !isN (n :: ns) := by
  rw [← foldl_min_neg]
  by_cases h : ns.foldl min n < 0
  · rw [decide_eq_true h, decide_eq_false (by omega)]; rfl
  · rw [decide_eq_false h, decide_eq_true (by omega)]; rfl
theorem isN_le {t o : List Int} (h : t.length = o.length) : isN (sub t o) = false ↔ Le o t := by
  rw [isN_iff, sub_nn_iff h.symm]
def spFits : Sp := fun vs H Q _ => ∃ (u v x : V) (us o r : List Int), vs = [u, v, x] ∧ At H u (dR us) ∧ Us us ∧ us.length ≤ 2 ∧ At H v (dR o) ∧ o.length = us.length + 1 ∧ At H x (dR r) ∧ Row us r ∧ tot us r ≤ 20 ∧
  ∀ (b : Bool) (H' : Hp), Same H H' → (b = true ↔ ∃ t, Reach us r t ∧ Le o t) → Q (.bl b) H'
def spLefts : Sp := fun vs H Q _ => ∃ (u v x : V) (us r o : List Int), vs = [u, v, x] ∧ At H u (dR us) ∧ Us us ∧ us.length ≤ 2 ∧ At H v (dR r) ∧ Row us r ∧ tot us r ≤ 20 ∧ At H x (dR o) ∧ o.length = us.length + 1 ∧
  ∀ (p : Addr) (xs : List V) (H' : Hp) (M : List (List Int)), Same H H' → H p = none → H' p = some (.lst xs) → AtAll H' xs (M.map dR) → M.length ≤ 10000 → (∀ l, l ∈ M ↔ ∃ t, Reach us r t ∧ Le o t ∧ l = sub t o) → Q (.ref p) H'
theorem any_rows {M : List (List Int)} {l : List Int} : ((M.map dR).any fun z => PyData.eqv z (dR l)) = decide (l ∈ M) := by
  rw [List.any_map]
  induction M with
  | nil => simp
  | cons t M ih =>
    rw [List.any_cons, ih]
    simp only [Function.comp, eqv_dR, List.mem_cons]
    by_cases h : t = l
    · simp [h]
    · have h2 : ¬ l = t := fun z => h z.symm
      simp [h, h2]
theorem shaped_rows (M : List (List Int)) : SeqAt.shaped (.list (M.map dR)) = true := by
  unfold SeqAt.shaped
  have h1 : (PyData.list (M.map dR)).canLay0 = true := by
    rw [PyData.canLay0]
    refine canLay_all fun d hd => ?_
    obtain ⟨t, _, rfl⟩ := List.mem_map.mp hd
    exact canLay_dR t
  have h2 : PyData.depthAll (M.map dR) ≤ 1 := by
    induction M with
    | nil => simp [PyData.depthAll]
    | cons t M ih =>
      have ih := ih (by
        rw [PyData.canLay0] at h1 ⊢
        rw [List.map_cons, PyData.canLayAll0, Bool.and_eq_true] at h1
        exact h1.2)
      rw [List.map_cons, PyData.depthAll]
      have : (dR t).depth = 1 := by unfold dR; rw [PyData.depth, depth_ints]
      omega
  rw [h1, Bool.true_and, PyData.depth]
  exact decide_eq_true (by omega)
/-- [.. for x in range(n)], what is made being told -/
theorem rd_rng {σ : L2.St} {H1 : Hp} {D : Addr} {Qd : Hp → Prop} {te : TE} {i : Nat} {lo : Int} {n : Nat} {vs : List Nat} (f : Nat → PyData) (hz : n ≤ 50000) (hf : ∀ m, noL (f m) = true) (hD : H1 D = none)
    (hw : ∀ x, wipe ((wipe σ vs).set i (some x)) vs = wipe σ vs)
    (he : ∀ (m : Nat) (H2 : Hp) (Q : VK), m < n → Same H1 H2 → Ret H2 Q (f m) → te ((wipe σ vs).set i (some (.int (lo + (m : Nat))))) H2 Q)
    (hd : ∀ H2 xs, Same H1 H2 → H2 D = some (.lst xs) → AtAll H2 xs ((List.range n).map f) → Qd H2) :
    ∃ W : Nat → Nat → Hp → Prop, (∃ m, W 0 m (upd H1 D (.lst []))) ∧ ∀ k m H, W k m H →
      ((Itr lo n).stop k H ∧ Qd H) ∨ ((Itr lo n).go k H ∧ ∃ Nx : Hp → Prop, (∀ H', Nx H' → ∃ m', m' < m ∧ W (k + 1) m' H') ∧ ∀ x H', (Itr lo n).yld k H x H' → gName i x (wipe σ vs) H' fun σ2 H2 => wipe σ2 vs = wipe σ vs ∧ tYes σ2 H2 fun b H3 =>
        if b = true then te σ2 H3 fun y H4 => ∃ acc, H4 D = some (.lst acc) ∧ acc.length < sizeLine ∧ Nx (upd H4 D (.lst (acc ++ [y]))) else Nx H3) := by
  refine lc_it walk_range (fun k H => ∃ xs, Same H1 H ∧ H D = some (.lst xs) ∧ AtAll H xs ((List.range k).map f)) ⟨[], same_new hD, upd_same, .nil⟩ (fun _ _ _ _ => trivial) ?_ (fun H ⟨xs, a, b, c⟩ => hd H xs a b c)
  rintro k x H H2 hk ⟨xs, e, hx, ha⟩ ⟨rfl, rfl⟩
  refine ⟨hw _, yes_if (he k _ _ hk e fun v H3 e3 a3 => ?_)⟩
  have lx := ha.len
  rw [List.length_map, List.length_range] at lx
  have h3 := e3 _ _ hx
  refine ⟨xs, h3, small' (by omega), xs ++ [v], same_mut (e.trans e3) hD, upd_same, ?_⟩
  rw [List.range_succ, List.map_append]
  refine ((ha.mono e3).mut (nt_lst h3) (noLs_all fun d hd => ?_)).app (AtAll.one (a3.mut (nt_lst h3) (hf k)))
  obtain ⟨m, _, rfl⟩ := List.mem_map.mp hd
  exact hf m
section
variable {P : Program} {w : World} {K : PySem.W.Frag} {mg : Str → Option Value} {base : Heap} {f : Addr} {fd : FuncData} {A : XA}
theorem sc_law_fits : FnScope ["_law_units_so", "_law_order", "_law_stock", "_law_row_here"] ["_law_units_so", "_law_order", "_law_stock"] (defScope (top 54)) := ⟨rfl, rfl, rfl, by decide +kernel, rfl, by decide +kernel, by decide +kernel⟩
theorem ok_law_fits (B : Bi mg) (C_law_cuts : Cal P w K mg base CX0 1 "_law_cuts" ["_law_units_so", "_law_row_here"] spCuts) (C_law_without : Cal P w K mg base CX0 1 "_law_without" ["_law_row_here", "_law_order"] spSub) (F : FnP K "_law_fits" (top 54) f fd) :
    FnOk P w K mg base CX0 2 f fd ["_law_units_so", "_law_order", "_law_stock"] spFits := by
  refine ok0 F sc_law_fits (fun vs H Q E h => by obtain ⟨_, _, _, _, _, _, rfl, _⟩ := h; rfl) (fun cdv A outer s0 H vs Q E hr h => ?_)
  obtain ⟨u, v, x, us, o, r, rfl, hu, hU, hu2, hv, ho, hx, hrow, htot, k⟩ := h
  refine ⟨(tSeq (tFor (iList K (tCall spCuts [] E0 (tCons (tVar 0) (tCons (tVar 2) tNil)))) (gName 3) (tIfS (tTest (tOp (rI0 fun i j => .bl (decide (j ≤ i))) (tCB (rMinT K) (tCons (tCall spSub [] E0 (tCons (tVar 3) (tCons (tVar 1) tNil))) tNil)) (tC (.int 0)))) (tRet (tC (.bl true))) tNext))
  (tRet (tC (.bl false)))),
    (pss_cons (ps_for PassesOwn.never rfl (pi_list (pe_cal C_law_cuts hr (by first | decide | omega) (by rfl) pass0 (pa_cons (pv 0) (pa_cons (pv 2) pa_nil)))) (pg_name (i := 3) sc_law_fits.nd rfl (by first | exact Or.inl rfl | exact Or.inr rfl))
  (pss_one (ps_if (pt_cmpR op_ge (pe_callB (call_minT rfl hr.units) (by rfl) B.min (by decide +kernel) (pa_cons (pe_cal C_law_without hr (by first | decide | omega) (by rfl) pass0 (pa_cons (pv 3) (pa_cons (pv 1) pa_nil))) pa_nil)) pe_int (nomark _))
  (pss_one (ps_ret pe_bl))
  pss_nil)))
  (pss_one (ps_ret pe_bl))), ?_⟩
  refine ⟨_, rfl, _, rfl, u, x, us, r, rfl, hu, hU, hu2, hx, hrow, htot, fun p xs H1 L e1 hp0 hp1 hL hmem hll => ?_⟩
  refine ⟨p, rfl, ⟨xs, sqL hp1⟩, ?_⟩
  have lx := hL.len
  rw [List.length_map] at lx
  refine for_it (walk_list (xs := xs)) (fun i σ H' => ∃ y3, σ = [some u, some v, some x, y3] ∧ Same H1 H' ∧ ∀ t ∈ L.take i, ¬ Le o t) ⟨none, rfl, Same.refl _, by simp⟩ (fun i σ H' _ h => ?_) ?_ ?_
  · obtain ⟨_, _, e, _⟩ := h
    exact sqL (e _ _ hp1)
  · rintro i y σ H2 H3 hi ⟨y3, rfl, e2, hnone⟩ hY
    obtain ⟨rfl, hy⟩ := hY
    obtain ⟨d, hd, ad⟩ := (hL.mono e2).getv hy
    rw [List.getElem?_map] at hd
    obtain ⟨t, ht, rfl⟩ : ∃ t, L[i]? = some t ∧ dR t = d := by
      cases hq : L[i]? with
      | none => rw [hq] at hd; cases hd
      | some q => rw [hq] at hd; exact ⟨q, rfl, Option.some.inj hd⟩
    have rt := (reach_row ((hmem t).mp (List.mem_of_getElem? ht)) hU.ps hrow).1
    refine ⟨_, rfl, _, rfl, y, v, t, o, rfl, ad, hv.mono (e1.trans e2), by rw [rt.1, ho], by rw [rt.1]; omega, fun v4 H4 e4 a4 => ?_⟩
    obtain ⟨p4, rfl, hp4⟩ := a4.of_row
    have lsub : (sub t o).length = us.length + 1 := by rw [sub_len (by rw [rt.1, ho]), ho]
    cases hs : sub t o with
    | nil => rw [hs] at lsub; simp at lsub
    | cons n ns =>
      rw [hs] at hp4 lsub
      refine ⟨p4, n, ns, rfl, sqT hp4, by rw [lsub]; omega, _, _, rfl, rfl, _, rfl, ?_⟩
      rw [min_neg, ← hs]
      cases hn : isN (sub t o) with
      | false =>
        exact iteT (k true H4 ((e1.trans e2).trans e4) ⟨fun _ => ⟨t, (hmem t).mp (List.mem_of_getElem? ht), (isN_le (by rw [rt.1, ho])).mp hn⟩, fun _ => rfl⟩)
      | true =>
        refine iteF ⟨_, rfl, e2.trans e4, fun t' ht' => ?_⟩
        have et : L.take (i + 1) = L.take i ++ [t] := by rw [List.take_succ, ht]; rfl
        rw [et] at ht'
        rcases List.mem_append.mp ht' with ht' | ht'
        · exact hnone t' ht'
        · rw [List.mem_singleton] at ht'
          subst ht'
          intro z
          rw [(isN_le (by rw [rt.1, ho])).mpr z] at hn
          cases hn
  · rintro σ H2 ⟨y3, rfl, e2, hnone⟩
    rw [List.take_of_length_le (by omega)] at hnone
    exact k false H2 (e1.trans e2) ⟨(fun z => by cases z), (fun z => by obtain ⟨t, h1, h2⟩ := z; exact absurd h2 (hnone t ((hmem t).mpr h1)))⟩
theorem sc_law_lefts : FnScope ["_law_units_so", "_law_stock", "_law_order", "_law_found", "_law_row_here", "_law_left"] ["_law_units_so", "_law_stock", "_law_order"] (defScope (top 55)) := ⟨rfl, rfl, rfl, by decide +kernel, rfl, by decide +kernel, by decide +kernel⟩
theorem ok_law_lefts (B : Bi mg) (C_law_cuts : Cal P w K mg base CX0 1 "_law_cuts" ["_law_units_so", "_law_row_here"] spCuts) (C_law_without : Cal P w K mg base CX0 1 "_law_without" ["_law_row_here", "_law_order"] spSub) (F : FnP K "_law_lefts" (top 55) f fd) :
    FnOk P w K mg base CX0 2 f fd ["_law_units_so", "_law_stock", "_law_order"] spLefts := by
  refine ok0 F sc_law_lefts (fun vs H Q E h => by obtain ⟨_, _, _, _, _, _, rfl, _⟩ := h; rfl) (fun cdv A outer s0 H vs Q E hr h => ?_)
  obtain ⟨u, v, x, us, r, o, rfl, hu, hU, hu2, hv, hrow, htot, hx, ho, k⟩ := h
  refine ⟨(tSeq (tAsg (tLst tNil) (gName 3))
  (tSeq (tFor (iList K (tCall spCuts [] E0 (tCons (tVar 0) (tCons (tVar 1) tNil)))) (gName 4) (tSeq (tAsg (tCall spSub [] E0 (tCons (tVar 4) (tCons (tVar 2) tNil))) (gName 5))
  (tIfS (tAnd (tTest (tOp (rI0 fun i j => .bl (decide (j ≤ i))) (tCB (rMinT K) (tCons (tVar 5) tNil)) (tC (.int 0)))) (tTest (tOp (rNotInD K) (tVar 5) (tVar 3)))) (tDrop (tBM K "list" rAppend (tVar 3) (tCons (tVar 5) tNil))) tNext)))
  (tRet (tCB rSortR (tCons (tVar 3) tNil))))),
    (pss_cons (ps_set (i := 3) sc_law_lefts.nd rfl (by first | exact Or.inl rfl | exact Or.inr rfl) (pe_lst pa_nil))
  (pss_cons (ps_for PassesOwn.never rfl (pi_list (pe_cal C_law_cuts hr (by first | decide | omega) (by rfl) pass0 (pa_cons (pv 0) (pa_cons (pv 1) pa_nil)))) (pg_name (i := 4) sc_law_lefts.nd rfl (by first | exact Or.inl rfl | exact Or.inr rfl))
  (pss_cons (ps_set (i := 5) sc_law_lefts.nd rfl (by first | exact Or.inl rfl | exact Or.inr rfl) (pe_cal C_law_without hr (by first | decide | omega) (by rfl) pass0 (pa_cons (pv 4) (pa_cons (pv 2) pa_nil))))
  (pss_one (ps_if (PW.pt (pw_and (pt_cmpR op_ge (pe_callB (call_minT rfl hr.units) (by rfl) B.min (by decide +kernel) (pa_cons (pv 5) pa_nil)) pe_int (nomark _)) (pw_and1 (pt_cmpR (op_notInD (hu65_of hr)) (pv 5) (pv 3) (by rfl)))))
  (pss_one (ps_expr (pe_bm PySem.F.plainAttrs_list PySem.F.slot_list_append PySem.F.type_list_append mt_append (pv 3) (pa_cons (pv 5) pa_nil))))
  pss_nil))))
  (pss_one (ps_ret (pe_callB call_sortR (by rfl) B.sorted (by decide +kernel) (pa_cons (pv 3) pa_nil)))))), ?_⟩
  refine ⟨small_ (by simp), fun l hl => ?_⟩
  have n0 := same_new (o := .lst []) hl
  refine ⟨_, rfl, _, rfl, u, v, us, r, rfl, hu.mono n0, hU, hu2, hv.mono n0, hrow, htot, fun p xs H1 L e1 hp0 hp1 hL hmem hll => ?_⟩
  have hl1 := e1 _ _ upd_same
  have npl : p ≠ l := (fun z => by rw [z, upd_same] at hp0; cases hp0)
  refine ⟨p, rfl, ⟨xs, sqL hp1⟩, ?_⟩
  have lx := hL.len
  rw [List.length_map] at lx
  refine for_it (walk_list (xs := xs)) (fun i σ H' => ∃ (y4 y5 : Option V) (M : List (List Int)) (zs : List V), σ = [some u, some v, some x, some (.ref l), y4, y5] ∧ Same H H' ∧ H' p = some (.lst xs) ∧ AtAll H' xs (L.map dR) ∧ H' l = some (.lst zs) ∧ AtAll H' zs (M.map dR) ∧ M.length ≤ i ∧ (∀ t ∈ L.take i, Le o t → sub t o ∈ M) ∧ (∀ q ∈ M, ∃ t, Reach us r t ∧ Le o t ∧ q = sub t o))
    ⟨none, none, [], [], rfl, n0.trans e1, hp1, hL, hl1, .nil, Nat.le_refl _, by simp, by simp⟩ (fun i σ H' _ h => ?_) ?_ ?_
  · obtain ⟨_, _, _, _, _, _, h, _⟩ := h
    exact sqL h
  · rintro i y σ H2 H3 hi ⟨y4, y5, M, zs, rfl, e2, hp2, hL2, hl2, hM, hMl, hin, hout⟩ hY
    obtain ⟨rfl, hy⟩ := hY
    obtain ⟨d, hd, ad⟩ := hL2.getv hy
    rw [List.getElem?_map] at hd
    obtain ⟨t, ht, rfl⟩ : ∃ t, L[i]? = some t ∧ dR t = d := by
      cases hq : L[i]? with
      | none => rw [hq] at hd; cases hd
      | some q => rw [hq] at hd; exact ⟨q, rfl, Option.some.inj hd⟩
    have et : L.take (i + 1) = L.take i ++ [t] := by rw [List.take_succ, ht]; rfl
    have hre := (hmem t).mp (List.mem_of_getElem? ht)
    have rt := (reach_row hre hU.ps hrow).1
    have lto : t.length = o.length := by rw [rt.1, ho]
    refine ⟨_, rfl, _, rfl, y, x, t, o, rfl, ad, hx.mono e2, lto, by rw [rt.1]; omega, fun v4 H4 e4 a4 => ?_⟩
    obtain ⟨p4, rfl, hp4⟩ := a4.of_row
    have lsub : (sub t o).length = us.length + 1 := by rw [sub_len lto, ho]
    obtain ⟨n, ns, hs⟩ : ∃ n ns, sub t o = n :: ns := by
      cases hs : sub t o with
      | nil => rw [hs] at lsub; simp at lsub
      | cons n ns => exact ⟨n, ns, rfl⟩
    have hp4' := hp4
    rw [hs] at hp4'
    refine ⟨_, rfl, p4, n, ns, rfl, sqT hp4', by rw [← hs, lsub]; omega, _, _, rfl, rfl, _, rfl, ?_⟩
    rw [min_neg, ← hs]
    have hl4 := e4 _ _ hl2
    have hlH : H l = none := hl
    have stay : ∀ H5, Same H4 H5 → (Le o t → sub t o ∈ M) → ∃ (y4 y5 : Option V) (M' : List (List Int)) (zs' : List V), [some u, some v, some x, some (.ref l), some y, some (.ref p4)] = [some u, some v, some x, some (.ref l), y4, y5] ∧ Same H H5 ∧ H5 p = some (.lst xs) ∧ AtAll H5 xs (L.map dR) ∧ H5 l = some (.lst zs') ∧ AtAll H5 zs' (M'.map dR) ∧ M'.length ≤ i + 1 ∧ (∀ t ∈ L.take (i + 1), Le o t → sub t o ∈ M') ∧ (∀ q ∈ M', ∃ t, Reach us r t ∧ Le o t ∧ q = sub t o) := by
      intro H5 e5 hq
      refine ⟨_, _, M, zs, rfl, e2.trans (e4.trans e5), (e4.trans e5) _ _ hp2, hL2.mono (e4.trans e5), e5 _ _ hl4, hM.mono (e4.trans e5), by omega, fun t' ht' => ?_, hout⟩
      rw [et] at ht'
      rcases List.mem_append.mp ht' with ht' | ht'
      · exact hin t' ht'
      · rw [List.mem_singleton] at ht'
        rw [ht']
        exact hq
    cases hn : isN (sub t o) with
    | true =>
      refine iteF (iteF ?_)
      refine stay H4 (Same.refl _) fun z => ?_
      rw [(isN_le lto).mpr z] at hn
      cases hn
    | false =>
      have hle := (isN_le lto).mp hn
      refine iteT ⟨_, rfl, _, rfl, dR (sub t o), M.map dR, a4.dp, .lst (sqL hl4) (hM.mono e4).dp, shaped_dR _, shaped_rows M, _, rfl, ?_⟩
      rw [any_rows]
      by_cases hin2 : sub t o ∈ M
      · rw [decide_eq_true hin2]
        exact iteF (stay H4 (Same.refl _) fun _ => hin2)
      · rw [decide_eq_false hin2]
        have lz := hM.len
        rw [List.length_map] at lz
        refine iteT ⟨_, rfl, .inl ⟨rfl, _, sqL hl4⟩, _, rfl, l, zs, _, rfl, rfl, hl4, small' (by omega), ?_⟩
        refine ⟨_, _, M ++ [sub t o], zs ++ [.ref p4], rfl, same_mut (e2.trans e4) hlH, ?_, (hL2.mono e4).mut (nt_lst hl4) (noL_rows L), upd_same, ?_, by rw [List.length_append]; simp; omega, ?_, ?_⟩
        · rw [upd_ne npl]
          exact e4 _ _ hp2
        · rw [List.map_append]
          exact ((hM.mono e4).mut (nt_lst hl4) (noL_rows M)).app (AtAll.one (a4.mut (nt_lst hl4) (noL_dR _)))
        · intro t' ht' hle'
          rw [et] at ht'
          rcases List.mem_append.mp ht' with ht' | ht'
          · exact List.mem_append_left _ (hin t' ht' hle')
          · rw [List.mem_singleton] at ht'
            rw [ht']
            exact List.mem_append_right _ (by simp)
        · intro q hq
          rcases List.mem_append.mp hq with hq | hq
          · exact hout q hq
          · rw [List.mem_singleton] at hq
            exact ⟨t, hre, hle, hq⟩
  · rintro σ H2 ⟨y4, y5, M, zs, rfl, e2, hp2, hL2, hl2, hM, hMl, hin, hout⟩
    rw [List.take_of_length_le (by omega)] at hin
    have hne : ∀ t ∈ M, t ≠ [] := fun q hq z => by
      obtain ⟨t, h1, h2, rfl⟩ := hout q hq
      have rt := (reach_row h1 hU.ps hrow).1
      have := sub_len (a := t) (b := o) (by rw [rt.1, ho])
      rw [z, ho] at this
      simp at this
    refine ⟨_, rfl, l, zs, M, rfl, hl2, hM, hne, fun ys q hperm hq => ?_⟩
    have nq := same_new (o := .lst ys) hq
    obtain ⟨M', hM', hat⟩ := atAll_perm hperm (hM.mono nq)
    refine k q ys _ M' (e2.trans nq) (none_of e2 hq) upd_same hat (by rw [hM'.length_eq]; omega) fun z => ?_
    rw [hM'.mem_iff]
    constructor
    · exact hout z
    · rintro ⟨t, h1, h2, rfl⟩
      exact hin t ((hmem t).mpr h1) h2
end
end K26
set_option Elab.async false
set_option linter.all false
set_option maxRecDepth 100000
set_option maxHeartbeats 4000000
namespace K26
open PySem PySem.Spec PyProof.Rows L2 RZ RT
/-! ## parts, all_rows -/
def ext (q : List Int) (n : Nat) : List (List Int) := (List.range n).map fun (k : Nat) => q ++ [(k : Int)]
theorem le_app {a b : List Int} {x y : Int} (h : Le a b) (k : x ≤ y) : Le (a ++ [x]) (b ++ [y]) := by
  induction a generalizing b with
  | nil =>
    cases b with
    | nil => exact ⟨k, trivial⟩
    | cons _ _ => exact h.elim
  | cons z a ih =>
    cases b with
    | nil => exact h.elim
    | cons w b => exact ⟨h.1, ih h.2⟩
theorem le_app_inv : ∀ {a b : List Int} {x y : Int}, a.length = b.length → Le (a ++ [x]) (b ++ [y]) → Le a b ∧ x ≤ y
  | [], [], _, _, _, h => ⟨trivial, h.1⟩
  | [], _ :: _, _, _, h, _ => by simp at h
  | _ :: _, [], _, _, h, _ => by simp at h
  | _ :: a, _ :: b, _, _, h, k => by
    have ih := le_app_inv (a := a) (b := b) (by simpa using h) k.2
    exact ⟨⟨k.1, ih.1⟩, ih.2⟩
theorem nn_app_inv : ∀ {a b : List Int}, Nn (a ++ b) → Nn a ∧ Nn b
  | [], _, h => ⟨trivial, h⟩
  | _ :: a, b, h => by
    have ih := nn_app_inv (a := a) (b := b) h.2
    exact ⟨⟨h.1, ih.1⟩, ih.2⟩
theorem snoc_of {q : List Int} {i : Nat} (h : q.length = i + 1) : ∃ p x, q = p ++ [x] ∧ p.length = i := by
  have hne : q ≠ [] := by intro z; rw [z] at h; cases h
  refine ⟨q.dropLast, q.getLast hne, (List.dropLast_concat_getLast hne).symm, ?_⟩
  rw [List.length_dropLast, h]
  rfl
theorem mem_ext {q z : List Int} {n : Nat} : z ∈ ext q n ↔ ∃ k : Nat, k < n ∧ z = q ++ [(k : Int)] := by
  unfold ext
  rw [List.mem_map]
  constructor
  · rintro ⟨k, h, rfl⟩
    exact ⟨k, List.mem_range.mp h, rfl⟩
  · rintro ⟨k, h, rfl⟩
    exact ⟨k, List.mem_range.mpr h, rfl⟩
/-- the lists of at most the numbers of r -/
def Parts (r : List Int) (M : List (List Int)) : Prop := ∀ q, q ∈ M ↔ q.length = r.length ∧ Nn q ∧ Le q r
theorem parts_step {r : List Int} {x : Int} {M : List (List Int)} (hx : 0 ≤ x) (h : Parts r M) : Parts (r ++ [x]) (M.flatMap fun q => ext q (x + 1).toNat) := by
  intro z
  rw [List.mem_flatMap]
  constructor
  · rintro ⟨q, hq, hz⟩
    obtain ⟨k, hk, rfl⟩ := mem_ext.mp hz
    obtain ⟨h1, h2, h3⟩ := (h q).mp hq
    exact ⟨by simp [h1], nn_app h2 ⟨by omega, trivial⟩, le_app h3 (by omega)⟩
  · rintro ⟨h1, h2, h3⟩
    rw [List.length_append, List.length_singleton] at h1
    obtain ⟨p, y, rfl, hp⟩ := snoc_of h1
    have h4 := le_app_inv hp h3
    have h5 := nn_app_inv h2
    refine ⟨p, (h p).mpr ⟨hp, h5.1, h4.1⟩, mem_ext.mpr ⟨y.toNat, ?_, ?_⟩⟩
    · have := h5.2.1; have := h4.2; omega
    · rw [show ((y.toNat : Nat) : Int) = y by have := h5.2.1; omega]
theorem flat_len_le {M : List (List Int)} {f : List Int → List (List Int)} {n : Nat} (h : ∀ q ∈ M, (f q).length ≤ n) : (M.flatMap f).length ≤ M.length * n := by
  induction M with
  | nil => simp
  | cons q M ih =>
    have h1 := h q List.mem_cons_self
    have h2 := ih fun x hx => h x (List.mem_cons_of_mem _ hx)
    rw [List.flatMap_cons, List.length_append, List.length_cons, Nat.succ_mul]
    omega
theorem ext_len {q : List Int} {n : Nat} : (ext q n).length = n := by simp [ext]
theorem ext_map {q : List Int} {n : Nat} : (List.range n).map (fun (k : Nat) => dR (q ++ [(k : Int)])) = (ext q n).map dR := by
  unfold ext
  rw [List.map_map]
  rfl
def spParts : Sp := fun vs H Q _ => ∃ (v : V) (r : List Int), vs = [v] ∧ At H v (dR r) ∧ r.length ≤ 3 ∧ (∀ x ∈ r, 0 ≤ x ∧ x ≤ 20) ∧ ∀ (p : Addr) (xs : List V) (H' : Hp) (M : List (List Int)), Same H H' → H p = none → H' p = some (.lst xs) → AtAll H' xs (M.map dR) → M.length ≤ 10000 → Parts r M → Q (.ref p) H'
def spAllR : Sp := fun vs H Q _ => ∃ (u : V) (us : List Int), vs = [u, .int 4] ∧ At H u (dR us) ∧ Us us ∧ us.length ≤ 2 ∧ ∀ (p : Addr) (xs : List V) (H' : Hp) (M : List (List Int)), Same H H' → H p = none → H' p = some (.lst xs) → AtAll H' xs (M.map dR) → M.length ≤ 1000 → (∀ q ∈ M, Row us q ∧ tot us q ≤ 4) → Q (.ref p) H'
section
variable {P : Program} {w : World} {K : PySem.W.Frag} {mg : Str → Option Value} {base : Heap} {f : Addr} {fd : FuncData} {A : XA}
theorem sc_law_parts : FnScope ["_law_row_here", "_law_found", "_law_number", "_law_more", "_law_part", "_law_less"] ["_law_row_here"] (defScope (top 56)) := ⟨rfl, rfl, rfl, by decide +kernel, rfl, by decide +kernel, by decide +kernel⟩
theorem ok_law_parts (B : Bi mg) (F : FnP K "_law_parts" (top 56) f fd) : FnOk P w K mg base CX0 1 f fd ["_law_row_here"] spParts := by
  refine ok0 F sc_law_parts (fun vs H Q E h => by obtain ⟨_, _, rfl, _⟩ := h; rfl) (fun cdv A outer s0 H vs Q E hr h => ?_)
  obtain ⟨v, r, rfl, hv, hr3, hrb, k⟩ := h
  refine ⟨(tSeq (tAsg (tLst (tCons (tTup tNil) tNil)) (gName 1))
  (tSeq (tFor (iTup K (tVar 0)) (gName 2) (tSeq (tAsg (tLst tNil) (gName 3))
  (tSeq (tFor (iList K (tVar 1)) (gName 4) (tAsg (tOp rCat (tVar 3) (tLc (iRng1 (tCons (tOp (rI0 fun i j => .int (i + j)) (tVar 2) (tC (.int 1))) tNil)) (gName 5) tYes (tOp (rCatA K) (tVar 4) (tTup (tCons (tVar 5) tNil))) [5])) (gName 3)))
  (tAsg (tCB (rListQ K) (tCons (tVar 3) tNil)) (gName 1)))))
  (tRet (tVar 1)))),
    (pss_cons (ps_set (i := 1) sc_law_parts.nd rfl (by first | exact Or.inl rfl | exact Or.inr rfl) (pe_lst (pa_cons (pe_tup pa_nil) pa_nil)))
  (pss_cons (ps_for PassesOwn.never rfl (pi_tup (pv 0)) (pg_name (i := 2) sc_law_parts.nd rfl (by first | exact Or.inl rfl | exact Or.inr rfl))
  (pss_cons (ps_set (i := 3) sc_law_parts.nd rfl (by first | exact Or.inl rfl | exact Or.inr rfl) (pe_lst pa_nil))
  (pss_cons (ps_for PassesOwn.never rfl (pi_list (pv 1)) (pg_name (i := 4) sc_law_parts.nd rfl (by first | exact Or.inl rfl | exact Or.inr rfl))
  (pss_one (ps_set (i := 3) sc_law_parts.nd rfl (by first | exact Or.inl rfl | exact Or.inr rfl) (pe_op op_cat (pv 3) (pe_lc (own := [("_law_less", 5)]) (g := (gName 5)) (tt := tYes) (te := (tOp (rCatA K) (tVar 4) (tTup (tCons (tVar 5) tNil)))) rfl sc_law_parts.nd (pi_range1 (by rfl) B.range (pa_cons (pe_op op_add (pv 2) pe_int) pa_nil)) (blkOk_by (N := ["_law_row_here", "_law_found", "_law_number", "_law_more", "_law_part", "_law_less"]) (sc := defScope (top 56)) (by decide +kernel)) (fun _ _ _ _ _ => (pg_name (i := 5) sc_law_parts.nd rfl (by first | exact Or.inl rfl | exact Or.inr rfl))) (fun _ _ _ _ _ => pts_nil) (fun _ _ _ _ _ => (pe_op op_catA (pv 4) (pe_tup (pa_cons (pv 5) pa_nil)))))))))
  (pss_one (ps_set (i := 1) sc_law_parts.nd rfl (by first | exact Or.inl rfl | exact Or.inr rfl) (pe_callTy call_listQ (by rfl) B.list (by decide +kernel) (pa_cons (pv 3) pa_nil)))))))
  (pss_one (ps_ret (pv 1))))), ?_⟩
  obtain ⟨pv, rfl, hpv⟩ := hv.of_row
  refine ⟨small_ (by simp), fun t1 ht1 => ⟨small_ (by simp), fun l0 hl0 => ?_⟩⟩
  have n1 := same_new (o := .tup []) ht1
  have n2 := same_new (o := .lst [.ref t1]) hl0
  refine ⟨_, rfl, pv, rfl, ⟨_, sqT ((n1.trans n2) _ _ hpv)⟩, ?_⟩
  refine for_it (walk_tup (xs := r.map V.int)) (fun i σ H' => ∃ (l : Addr) (y2 y3 y4 : Option V) (M : List (List Int)) (xs : List V), σ = [some (.ref pv), some (.ref l), y2, y3, y4, none] ∧ Same H H' ∧ H l = none ∧ H' l = some (.lst xs) ∧ AtAll H' xs (M.map dR) ∧ Parts (r.take i) M ∧ M.length ≤ 21 ^ i)
    ⟨l0, none, none, none, [[]], [.ref t1], rfl, n1.trans n2, none_of n1 hl0, upd_same, AtAll.one (At.row (l := []) (n2 _ _ upd_same)), ?_, by simp⟩ (fun i σ H' _ h => ?_) ?_ ?_
  · intro q
    rw [List.mem_singleton]
    constructor
    · rintro rfl
      exact ⟨rfl, trivial, trivial⟩
    · rintro ⟨h, _⟩
      exact List.eq_nil_of_length_eq_zero h
  · obtain ⟨_, _, _, _, _, _, _, e, _⟩ := h
    exact sqT (e _ _ hpv)
  · rintro i x σ H1 H2 hi ⟨l, y2, y3, y4, M, xs, rfl, e1, hl, hl1, hM, hP, hML⟩ hY
    obtain ⟨rfl, hx⟩ := hY
    obtain ⟨z, hz, rfl⟩ := getI hx
    have hzb := hrb z (List.mem_of_getElem? hz)
    rw [List.length_map] at hi
    have lx := hM.len
    rw [List.length_map] at lx
    have hpow : 21 ^ i ≤ 441 := by
      have : 21 ^ i ≤ 21 ^ 2 := Nat.pow_le_pow_right (by decide) (by omega)
      exact this
    refine ⟨small_ (by simp), fun m0 hm0 => ?_⟩
    have n3 := same_new (o := .lst []) hm0
    refine ⟨_, rfl, l, rfl, ⟨_, sqL (n3 _ _ hl1)⟩, ?_⟩
    refine for_it (walk_list (xs := xs)) (fun j σ H' => ∃ (mm : Addr) (y4 : Option V) (N : List (List Int)) (zs : List V), σ = [some (.ref pv), some (.ref l), some (.int z), some (.ref mm), y4, none] ∧ Same H H' ∧ H' l = some (.lst xs) ∧ AtAll H' xs (M.map dR) ∧ H mm = none ∧ H' mm = some (.lst zs) ∧ AtAll H' zs (N.map dR) ∧ N = (M.take j).flatMap fun q => ext q (z + 1).toNat)
      ⟨m0, _, [], [], rfl, e1.trans n3, n3 _ _ hl1, hM.mono n3, none_of e1 hm0, upd_same, .nil, by simp⟩ (fun j σ H' _ h => ?_) ?_ ?_
    · obtain ⟨_, _, _, _, _, _, h, _⟩ := h
      exact sqL h
    · rintro j y σ H3 H4 hj ⟨mm, y4, N, zs, rfl, e3, hl3, hM3, hmm, hmm3, hN, rfl⟩ hY
      obtain ⟨rfl, hy⟩ := hY
      obtain ⟨d, hd, ad⟩ := hM3.getv hy
      rw [List.getElem?_map] at hd
      obtain ⟨q, hq, rfl⟩ : ∃ t, M[j]? = some t ∧ dR t = d := by
        cases hq : M[j]? with
        | none => rw [hq] at hd; cases hd
        | some q => rw [hq] at hd; exact ⟨q, rfl, Option.some.inj hd⟩
      have ql := ((hP q).mp (List.mem_of_getElem? hq)).1
      rw [List.length_take] at ql
      obtain ⟨py, rfl, hpy⟩ := ad.of_row
      have et : M.take (j + 1) = M.take j ++ [q] := by rw [List.take_succ, hq]; rfl
      have lz := hN.len
      rw [List.length_map] at lz
      have hNl : ((M.take j).flatMap fun q => ext q (z + 1).toNat).length ≤ 441 * 21 := by
        refine Nat.le_trans (flat_len_le (n := 21) fun q _ => by rw [ext_len]; omega) ?_
        exact Nat.mul_le_mul_right 21 (by rw [List.length_take]; omega)
      refine ⟨_, rfl, _, rfl, _, 1, rfl, rfl, _, rfl, by omega, by omega, fun D hD => ?_⟩
      refine rd_rng (fun k => dR (q ++ [(k : Int)])) (by omega) (fun m => noL_dR _) hD (fun _ => rfl) ?_ ?_
      · intro m H5 Q5 hm e5 k5
        rw [Int.zero_add]
        refine ⟨_, rfl, _, rfl, small_ (by simp), fun t6 ht6 => ?_⟩
        have n6 := same_new (o := .tup [.int (m : Nat)]) ht6
        exact cat_row (ad.mono (e5.trans n6)) (At.row (l := [(m : Int)]) upd_same) (by simp; omega) (Ret.mono k5 n6)
      · intro H5 ws e5 hD5 hws
        rw [ext_map] at hws
        have lw := hws.len
        rw [List.length_map, ext_len] at lw
        refine ⟨mm, D, zs, ws, rfl, rfl, e5 _ _ hmm3, hD5, small_ (by omega), fun m2 hm2 => ?_⟩
        have n7 := same_new (o := .lst (zs ++ ws)) hm2
        refine ⟨m2, _, _, zs ++ ws, rfl, (e3.trans e5).trans n7, (e5.trans n7) _ _ hl3, hM3.mono (e5.trans n7), none_of (e3.trans e5) hm2, upd_same, ?_, rfl⟩
        rw [et, List.flatMap_append, List.map_append]
        refine AtAll.app (hN.mono (e5.trans n7)) ?_
        simp only [List.flatMap_cons, List.flatMap_nil, List.append_nil]
        exact hws.mono n7
    · rintro σ H3 ⟨mm, y4, N, zs, rfl, e3, hl3, hM3, hmm, hmm3, hN, rfl⟩
      rw [List.take_of_length_le (by omega)] at hN
      refine ⟨_, rfl, mm, zs, rfl, .inl (sqL hmm3), fun l2 hl2 => ?_⟩
      have n8 := same_new (o := .lst zs) hl2
      refine ⟨l2, _, _, _, _, zs, rfl, e3.trans n8, none_of e3 hl2, upd_same, hN.mono n8, ?_, ?_⟩
      · have et : r.take (i + 1) = r.take i ++ [z] := by rw [List.take_succ, hz]; rfl
        rw [et]
        exact parts_step hzb.1 hP
      · refine Nat.le_trans (flat_len_le (n := 21) fun q _ => by rw [ext_len]; omega) ?_
        rw [Nat.pow_succ]
        exact Nat.mul_le_mul_right 21 hML
  · rintro σ H1 ⟨l, y2, y3, y4, M, xs, rfl, e1, hl, hl1, hM, hP, hML⟩
    rw [List.length_map] at hP hML
    rw [List.take_length] at hP
    have hpow : 21 ^ r.length ≤ 9261 := by
      have : 21 ^ r.length ≤ 21 ^ 3 := Nat.pow_le_pow_right (by decide) (by omega)
      exact this
    exact ⟨_, rfl, k l xs H1 M e1 hl hl1 hM (by omega) hP⟩
end
end K26
set_option Elab.async false
set_option linter.all false
set_option maxRecDepth 100000
set_option maxHeartbeats 4000000
namespace K26
open PySem PySem.Spec PyProof.Rows L2 RZ RT
/-! ## all_rows -/
def prods : List Int → List Int → List Int
  | a :: as, b :: bs => (a * b) :: prods as bs
  | _, _ => []
theorem prods_sum : ∀ {a b : List Int}, (prods a b).sum = dot a b
  | [], _ => by simp [prods, dot]
  | _ :: _, [] => by simp [prods, dot]
  | x :: a, y :: b => by simp only [prods, dot, List.sum_cons, prods_sum]
theorem prods_len : ∀ {a b : List Int}, a.length ≤ b.length → (prods a b).length = a.length
  | [], _, _ => by simp [prods]
  | _ :: _, [], h => by simp at h
  | x :: a, y :: b, h => by simp only [prods, List.length_cons, prods_len (a := a) (b := b) (by simpa using h)]
theorem prods_get : ∀ {a b : List Int} {i : Nat} {x y : Int}, a[i]? = some x → b[i]? = some y → (prods a b)[i]? = some (x * y)
  | [], _, _, _, _, h, _ => by simp at h
  | _ :: _, [], _, _, _, _, h => by simp at h
  | a :: as, b :: bs, 0, x, y, h, k => by simp at h k; simp [prods, h, k]
  | a :: as, b :: bs, i + 1, x, y, h, k => by simp at h k; simpa [prods] using prods_get h k
theorem dot_take : ∀ {a b : List Int}, dot a (b.take a.length) = dot a b
  | [], _ => by simp [dot]
  | _ :: _, [] => by simp [dot]
  | x :: a, y :: b => by simp only [List.length_cons, List.take_succ_cons, dot, dot_take]
section
variable {K : PySem.W.Frag} {a b : Addr} {xs ys : List V}
/-- as rd_zip, the second at least as long -/
theorem rd_zip2 {σ : L2.St} {H1 : Hp} {D : Addr} {Qd : Hp → Prop} {te : TE} {i j : Nat} {vs : List Nat} (f : Nat → V) (hx : H1 a = some (.tup xs)) (hy : H1 b = some (.tup ys)) (hl : xs.length ≤ ys.length) (hz : xs.length ≤ 100000) (hD : H1 D = none)
    (hw : ∀ x y, wipe (((wipe σ vs).set i (some x)).set j (some y)) vs = wipe σ vs)
    (he : ∀ (m : Nat) (x y : V) (H2 : Hp) (Q : VK), xs[m]? = some x → ys[m]? = some y → Same H1 H2 → Q (f m) H2 → te (((wipe σ vs).set i (some x)).set j (some y)) H2 Q)
    (hd : ∀ H2, Same H1 H2 → H2 D = some (.lst ((List.range xs.length).map f)) → Qd H2) :
    ∃ W : Nat → Nat → Hp → Prop, (∃ m, W 0 m (upd H1 D (.lst []))) ∧ ∀ n m H, W n m H →
      ((RZ.ItzT K a b).stop n H ∧ Qd H) ∨ ((RZ.ItzT K a b).go n H ∧ ∃ Nx : Hp → Prop, (∀ H', Nx H' → ∃ m', m' < m ∧ W (n + 1) m' H') ∧ ∀ x H', (RZ.ItzT K a b).yld n H x H' → gTup K 2 (gCons (gName i) (gCons (gName j) gNil)) x (wipe σ vs) H' fun σ2 H2 => wipe σ2 vs = wipe σ vs ∧ tYes σ2 H2 fun b H3 =>
        if b = true then te σ2 H3 fun y H4 => ∃ acc, H4 D = some (.lst acc) ∧ acc.length < sizeLine ∧ Nx (upd H4 D (.lst (acc ++ [y]))) else Nx H3) := by
  refine lc_it (walk_zipT (n := xs.length) (xs := xs) (ys := ys) (by omega)) (fun n H => Same H1 H ∧ H D = some (.lst ((List.range n).map f))) ⟨same_mut (Same.refl H1) hD, upd_same⟩ (fun n H _ p => ⟨sqT (p.1 _ _ hx), sqT (p.1 _ _ hy)⟩) ?_ (fun H p => hd H p.1 p.2)
  rintro n v H H' hn ⟨p, q⟩ ⟨T, x, y, rfl, nT, rfl, ex, ey⟩
  have e1 : Same H (upd H T (.tup [x, y])) := same_new nT
  have nDT : D ≠ T := ne_of_none q nT
  refine ⟨T, [x, y], rfl, sqT upd_same, rfl, x, [y], rfl, y, [], rfl, rfl, hw x y, yes_if ?_⟩
  refine he n x y _ _ ex ey (p.trans e1) ⟨(List.range n).map f, by rw [upd_ne nDT]; exact q, ?_, same_mut (p.trans e1) hD, ?_⟩
  · rw [List.length_map, List.length_range]
    exact small' (by omega)
  · rw [upd_same, List.range_succ, List.map_append]
    rfl
end
section
variable {P : Program} {w : World} {K : PySem.W.Frag} {mg : Str → Option Value} {base : Heap} {f : Addr} {fd : FuncData} {A : XA}
theorem sc_law_all_rows : FnScope ["_law_units_so", "_law_most", "_law_sizes_so", "_law_found", "_law_size", "_law_more", "_law_row_here", "_law_left", "_law_number", "_law_other"] ["_law_units_so", "_law_most"] (defScope (top 57)) := ⟨rfl, rfl, rfl, by decide +kernel, rfl, by decide +kernel, by decide +kernel⟩
theorem ok_law_all_rows (B : Bi mg) (C_law_sizes : Cal P w K mg base CX0 1 "_law_sizes" ["_law_units_so"] spSizes) (F : FnP K "_law_all_rows" (top 57) f fd) : FnOk P w K mg base CX0 2 f fd ["_law_units_so", "_law_most"] spAllR := by
  refine ok0 F sc_law_all_rows (fun vs H Q E h => by obtain ⟨_, _, rfl, _⟩ := h; rfl) (fun cdv A outer s0 H vs Q E hr h => ?_)
  obtain ⟨u, us, rfl, hu, hU, hu2, k⟩ := h
  refine ⟨(tSeq (tPar 2 3 (tCons (tCall spSizes [] E0 (tCons (tVar 0) tNil)) (tCons (tLst (tCons (tTup tNil) tNil)) tNil)))
  (tSeq (tFor (iTup K (tVar 2)) (gName 4) (tSeq (tAsg (tLst tNil) (gName 5))
  (tSeq (tFor (iList K (tVar 3)) (gName 6) (tSeq (tAsg (tOp (rI0 fun i j => .int (i - j)) (tVar 1) (tCB (rSum K) (tCons (tLc (iZipA K (tCons (tVar 6) (tCons (tVar 2) tNil))) (gTup K 2 (gCons (gName 8) (gCons (gName 9) gNil))) tYes (tOp (rI CMul fun i j => .int (i * j)) (tVar 8) (tVar 9)) [8, 9]) tNil))) (gName 7))
  (tAsg (tOp rCat (tVar 5) (tLc (iRng1 (tCons (tOp (rI0 fun i j => .int (i + j)) (tOp (rI CDiv fun i j => .int (i / j)) (tCB rIntQ (tCons (tVar 7) tNil)) (tVar 4)) (tC (.int 1))) tNil)) (gName 8) tYes (tOp (rCatA K) (tVar 6) (tTup (tCons (tVar 8) tNil))) [8])) (gName 5))))
  (tAsg (tCB (rListQ K) (tCons (tVar 5) tNil)) (gName 3)))))
  (tRet (tVar 3)))),
    (pss_cons (ps_par (i := 2) (j := 3) rfl sc_law_all_rows.nd rfl rfl (by decide) rfl rfl (pa_cons (pe_cal C_law_sizes hr (by first | decide | omega) (by rfl) pass0 (pa_cons (pv 0) pa_nil)) (pa_cons (pe_lst (pa_cons (pe_tup pa_nil) pa_nil)) pa_nil)) (by rfl))
  (pss_cons (ps_for PassesOwn.never rfl (pi_tup (pv 2)) (pg_name (i := 4) sc_law_all_rows.nd rfl (by first | exact Or.inl rfl | exact Or.inr rfl))
  (pss_cons (ps_set (i := 5) sc_law_all_rows.nd rfl (by first | exact Or.inl rfl | exact Or.inr rfl) (pe_lst pa_nil))
  (pss_cons (ps_for PassesOwn.never rfl (pi_list (pv 3)) (pg_name (i := 6) sc_law_all_rows.nd rfl (by first | exact Or.inl rfl | exact Or.inr rfl))
  (pss_cons (ps_set (i := 7) sc_law_all_rows.nd rfl (by first | exact Or.inl rfl | exact Or.inr rfl) (pe_op op_sub (pv 1) (pe_callB (cr_sum rfl) (by rfl) B.sum (by decide +kernel) (pa_cons (pe_lc (own := [("_law_number", 8), ("_law_other", 9)]) (g := (gTup K 2 (gCons (gName 8) (gCons (gName 9) gNil)))) (tt := tYes) (te := (tOp (rI CMul fun i j => .int (i * j)) (tVar 8) (tVar 9))) rfl sc_law_all_rows.nd (pi_zipA (by rfl) B.zip (pa_cons (pv 6) (pa_cons (pv 2) pa_nil))) (blkOk_by (N := ["_law_units_so", "_law_most", "_law_sizes_so", "_law_found", "_law_size", "_law_more", "_law_row_here", "_law_left", "_law_number", "_law_other"]) (sc := defScope (top 57)) (by decide +kernel)) (fun _ _ _ _ _ => (pg_tup rfl (pgs_cons (pg_name (i := 8) sc_law_all_rows.nd rfl (by first | exact Or.inl rfl | exact Or.inr rfl)) (pgs_cons (pg_name (i := 9) sc_law_all_rows.nd rfl (by first | exact Or.inl rfl | exact Or.inr rfl)) pgs_nil)))) (fun _ _ _ _ _ => pts_nil) (fun _ _ _ _ _ => (pe_op op_mul (pv 8) (pv 9)))) pa_nil))))
  (pss_one (ps_set (i := 5) sc_law_all_rows.nd rfl (by first | exact Or.inl rfl | exact Or.inr rfl) (pe_op op_cat (pv 5) (pe_lc (own := [("_law_number", 8)]) (g := (gName 8)) (tt := tYes) (te := (tOp (rCatA K) (tVar 6) (tTup (tCons (tVar 8) tNil)))) rfl sc_law_all_rows.nd (pi_range1 (by rfl) B.range (pa_cons (pe_op op_add (pe_op op_fdiv (pe_callTy call_intQ (by rfl) B.int (by decide +kernel) (pa_cons (pv 7) pa_nil)) (pv 4)) pe_int) pa_nil)) (blkOk_by (N := ["_law_units_so", "_law_most", "_law_sizes_so", "_law_found", "_law_size", "_law_more", "_law_row_here", "_law_left", "_law_number", "_law_other"]) (sc := defScope (top 57)) (by decide +kernel)) (fun _ _ _ _ _ => (pg_name (i := 8) sc_law_all_rows.nd rfl (by first | exact Or.inl rfl | exact Or.inr rfl))) (fun _ _ _ _ _ => pts_nil) (fun _ _ _ _ _ => (pe_op op_catA (pv 6) (pe_tup (pa_cons (pv 8) pa_nil))))))))))
  (pss_one (ps_set (i := 3) sc_law_all_rows.nd rfl (by first | exact Or.inl rfl | exact Or.inr rfl) (pe_callTy call_listQ (by rfl) B.list (by decide +kernel) (pa_cons (pv 5) pa_nil)))))))
  (pss_one (ps_ret (pv 3))))), ?_⟩
  refine ⟨_, rfl, u, us, rfl, hu, hU, fun v1 H1 e1 a1 => ?_⟩
  obtain ⟨ps, rfl, hps⟩ := a1.of_row
  refine ⟨small_ (by simp), fun t1 ht1 => ⟨small_ (by simp), fun l0 hl0 => ?_⟩⟩
  have n1 := same_new (o := .tup []) ht1
  have n2 := same_new (o := .lst [.ref t1]) hl0
  have hsl := sizes_len us
  refine ⟨_, _, rfl, _, rfl, ps, rfl, ⟨_, sqT ((n1.trans n2) _ _ hps)⟩, ?_⟩
  have e12 := e1.trans (n1.trans n2)
  refine for_it (walk_tup (xs := (sizes us).map V.int)) (fun i σ H' => ∃ (l : Addr) (y4 y5 y6 y7 : Option V) (M : List (List Int)) (xs : List V), σ = [some u, some (.int 4), some (.ref ps), some (.ref l), y4, y5, y6, y7, none, none] ∧ Same H H' ∧ H' ps = some (.tup ((sizes us).map V.int)) ∧ H l = none ∧ H' l = some (.lst xs) ∧ AtAll H' xs (M.map dR) ∧ M.length ≤ 5 ^ i ∧ ∀ q ∈ M, q.length = i ∧ Nn q ∧ dot q ((sizes us).take i) ≤ 4)
    ⟨l0, none, none, none, none, [[]], [.ref t1], rfl, e12, (n1.trans n2) _ _ hps, none_of (e1.trans n1) hl0, upd_same, AtAll.one (At.row (l := []) (n2 _ _ upd_same)), by simp, ?_⟩ (fun i σ H' _ h => ?_) ?_ ?_
  · intro q hq
    rw [List.mem_singleton] at hq
    subst hq
    exact ⟨rfl, trivial, by simp [dot]⟩
  · obtain ⟨_, _, _, _, _, _, _, _, _, h, _⟩ := h
    exact sqT h
  · rintro i x σ H2o H2 hi ⟨l, y4, y5, y6, y7, M, xs, rfl, e2, hp2, hl, hl2, hM, hML, hP⟩ hY
    obtain ⟨rfl, hx⟩ := hY
    obtain ⟨z, hz, rfl⟩ := getI hx
    have hzb := hU.sz z (List.mem_of_getElem? hz)
    rw [List.length_map] at hi
    have lx := hM.len
    rw [List.length_map] at lx
    have hpow : 5 ^ i ≤ 125 := by
      have : 5 ^ i ≤ 5 ^ 3 := Nat.pow_le_pow_right (by decide) (by omega)
      exact this
    refine ⟨small_ (by simp), fun m0 hm0 => ?_⟩
    have n3 := same_new (o := .lst []) hm0
    refine ⟨_, rfl, l, rfl, ⟨_, sqL (n3 _ _ hl2)⟩, ?_⟩
    refine for_it (walk_list (xs := xs)) (fun j σ H' => ∃ (mm : Addr) (y6 y7 : Option V) (N : List (List Int)) (zs : List V), σ = [some u, some (.int 4), some (.ref ps), some (.ref l), some (.int z), some (.ref mm), y6, y7, none, none] ∧ Same H H' ∧ H' ps = some (.tup ((sizes us).map V.int)) ∧ H' l = some (.lst xs) ∧ AtAll H' xs (M.map dR) ∧ H mm = none ∧ H' mm = some (.lst zs) ∧ AtAll H' zs (N.map dR) ∧ N.length ≤ 5 * j ∧ ∀ q ∈ N, q.length = i + 1 ∧ Nn q ∧ dot q ((sizes us).take (i + 1)) ≤ 4)
      ⟨m0, _, _, [], [], rfl, e2.trans n3, n3 _ _ hp2, n3 _ _ hl2, hM.mono n3, none_of e2 hm0, upd_same, .nil, by simp, by simp⟩ (fun j σ H' _ h => ?_) ?_ ?_
    · obtain ⟨_, _, _, _, _, _, _, _, h, _⟩ := h
      exact sqL h
    · rintro j y σ H3o H3 hj ⟨mm, y6, y7, N, zs, rfl, e3, hp3, hl3, hM3, hmm, hmm3, hN, hNl, hNP⟩ hY
      obtain ⟨rfl, hy⟩ := hY
      obtain ⟨d, hd, ad⟩ := hM3.getv hy
      rw [List.getElem?_map] at hd
      obtain ⟨q, hq, rfl⟩ : ∃ t, M[j]? = some t ∧ dR t = d := by
        cases hq : M[j]? with
        | none => rw [hq] at hd; cases hd
        | some q => rw [hq] at hd; exact ⟨q, rfl, Option.some.inj hd⟩
      obtain ⟨q1, q2, q3⟩ := hP q (List.mem_of_getElem? hq)
      obtain ⟨py, rfl, hpy⟩ := ad.of_row
      have lz := hN.len
      rw [List.length_map] at lz
      have hqs : q.length ≤ (sizes us).length := by omega
      have hdq : dot q (sizes us) = dot q ((sizes us).take i) := by rw [← q1, dot_take]
      have hdn : 0 ≤ dot q ((sizes us).take i) := (dot_nn q2 (fun z hz => (hU.sz z (List.mem_of_mem_take hz)).1) (by rw [List.length_take, q1]; omega)).1
      -- left
      refine ⟨_, rfl, _, rfl, _, rfl, py, ps, _, _, rfl, .inr ⟨sqT hpy, sqT hp3, fun D hD => ?_⟩⟩
      refine rd_zip2 (fun m => .int ((prods q (sizes us)).getD m 0)) hpy hp3 (by rw [List.length_map, List.length_map]; exact hqs) (by rw [List.length_map]; omega) hD (fun _ _ => rfl) ?_ ?_
      · intro m x1 y1 H4 Q4 ex ey e4 hQ
        obtain ⟨x1, e5, rfl⟩ := getI ex
        obtain ⟨y1, e6, rfl⟩ := getI ey
        have hyb := hU.sz y1 (List.mem_of_getElem? e6)
        refine ⟨_, rfl, _, rfl, x1, y1, rfl, rfl, .inr ⟨by omega, by omega⟩, ?_⟩
        have e := prods_get e5 e6
        rw [List.getD_eq_getElem?_getD, e] at hQ
        exact hQ
      · intro H4 e4 hD4
        have hD4' : H4 D = some (.lst ((prods q (sizes us)).map V.int)) := by
          rw [hD4, List.length_map, ← prods_len hqs, range_map]
        refine ⟨D, prods q (sizes us), rfl, sqL hD4', _, _, rfl, rfl, ?_⟩
        rw [prods_sum]
        have e34 := e3.trans e4
        have hdv0 : 0 ≤ (4 - dot q (sizes us)) / z := Int.ediv_nonneg (by omega) (by omega)
        have hdv1 : (4 - dot q (sizes us)) / z ≤ 4 - dot q (sizes us) := Int.ediv_le_self _ (by omega)
        have hdv2 : (4 - dot q (sizes us)) / z * z ≤ 4 - dot q (sizes us) := Int.ediv_mul_le _ (by omega)
        refine ⟨_, rfl, _, rfl, _, rfl, _, rfl, _, z, rfl, rfl, ⟨by omega, by omega⟩, _, 1, rfl, rfl, _, rfl, ?_, ?_, fun D2 hD2 => ?_⟩
        · omega
        · omega
        have el : ((4 - dot q (sizes us)) / z + 1).toNat = ((4 - dot q (sizes us)) / z).toNat + 1 := by omega
        refine rd_rng (fun k => dR (q ++ [(k : Int)])) ?_ (fun m => noL_dR _) hD2 (fun _ => rfl) ?_ ?_
        · omega
        · intro m H5 Q5 hm e5 k5
          rw [Int.zero_add]
          refine ⟨_, rfl, _, rfl, small_ (by simp), fun t6 ht6 => ?_⟩
          have n6 := same_new (o := .tup [.int (m : Nat)]) ht6
          exact cat_row ((ad.mono e4).mono (e5.trans n6)) (At.row (l := [(m : Int)]) upd_same) (by simp; omega) (Ret.mono k5 n6)
        · intro H5 ws e5 hD5 hws
          rw [ext_map] at hws
          have lw := hws.len
          rw [List.length_map, ext_len] at lw
          have e45 := e4.trans e5
          refine ⟨mm, D2, zs, ws, rfl, rfl, e45 _ _ hmm3, hD5, small_ (by omega), fun m2 hm2 => ?_⟩
          have n7 := same_new (o := .lst (zs ++ ws)) hm2
          refine ⟨m2, _, _, N ++ ext q ((4 - dot q (sizes us)) / z + 1).toNat, zs ++ ws, rfl, (e3.trans e45).trans n7, (e45.trans n7) _ _ hp3, (e45.trans n7) _ _ hl3, hM3.mono (e45.trans n7), none_of (e3.trans e45) hm2, upd_same, ?_, ?_, ?_⟩
          · rw [List.map_append]
            exact (hN.mono (e45.trans n7)).app (hws.mono n7)
          · rw [List.length_append, ext_len]
            omega
          · intro q' hq'
            rcases List.mem_append.mp hq' with hq' | hq'
            · exact hNP q' hq'
            · obtain ⟨m, hm, rfl⟩ := mem_ext.mp hq'
              refine ⟨by simp [q1], nn_app q2 ⟨by omega, trivial⟩, ?_⟩
              have et : (sizes us).take (i + 1) = (sizes us).take i ++ [z] := by rw [List.take_succ, hz]; rfl
              rw [et, dot_snoc (by rw [List.length_take, q1]; omega)]
              have : (m : Int) * z ≤ (4 - dot q (sizes us)) / z * z := Int.mul_le_mul_of_nonneg_right (by omega) (by omega)
              omega
    · rintro σ H3 ⟨mm, y6, y7, N, zs, rfl, e3, hp3, hl3, hM3, hmm, hmm3, hN, hNl, hNP⟩
      refine ⟨_, rfl, mm, zs, rfl, .inl (sqL hmm3), fun l2 hl2 => ?_⟩
      have n8 := same_new (o := .lst zs) hl2
      refine ⟨l2, _, _, _, _, N, zs, rfl, e3.trans n8, n8 _ _ hp3, none_of e3 hl2, upd_same, hN.mono n8, ?_, hNP⟩
      rw [Nat.pow_succ]
      omega
  · rintro σ H2 ⟨l, y4, y5, y6, y7, M, xs, rfl, e2, hp2, hl, hl2, hM, hML, hP⟩
    rw [List.length_map] at hP hML
    rw [List.take_length] at hP
    have hpow : 5 ^ (sizes us).length ≤ 125 := by
      have : 5 ^ (sizes us).length ≤ 5 ^ 3 := Nat.pow_le_pow_right (by decide) (by omega)
      exact this
    exact ⟨_, rfl, k l xs H2 M e2 hl hl2 hM (by omega) fun q hq => ⟨⟨by rw [(hP q hq).1, hsl], (hP q hq).2.1⟩, (hP q hq).2.2⟩⟩
end
end K26
set_option Elab.async false
set_option linter.all false
set_option maxRecDepth 100000
set_option maxHeartbeats 4000000
namespace K26
open PySem PySem.Spec PyProof.Rows L2 RZ RT
/-! ## a dict whose keys are pairs of rows, its values bools -/
abbrev NEnt := (List Int × List Int) × Addr × Bool
def nk (p : List Int × List Int) : NestedKey := .tup [.tup (p.1.map .num), .tup (p.2.map .num)]
def nx (e : NEnt) : NestedKey × Addr × Value := (nk e.1, e.2.1, .bool e.2.2)
def ndO (P : Program) (w : World) (d : Addr) (ents : List NEnt) : HO := .ext fun h => (d == sysModules) = false ∧
  ∃ o es ep, h.get? d = some o ∧ o.ExactDict ∧ o.data = .dict es ep ∧ es.toList = (ents.map nx).map (entryOfKey (nestedKind P w)) ∧ ((ents.map nx).map (·.1)).Nodup
def Memo (P : Program) (w : World) (H : Hp) (d : Addr) (ents : List NEnt) : Prop := H d = some (ndO P w d ents) ∧ ∀ e ∈ ents, At H (.ref e.2.1) (.tuple [dR e.1.1, dR e.1.2])
def look (ents : List NEnt) (k : List Int × List Int) : Option Bool := (ents.find? fun e => decide (e.1 = k)).map (·.2.2)
theorem num_inj : ∀ {a b : List Int}, a.map NestedKey.num = b.map NestedKey.num → a = b
  | [], [], _ => rfl
  | [], _ :: _, h => by cases h
  | _ :: _, [], h => by cases h
  | x :: a, y :: b, h => by
    simp only [List.map_cons, List.cons.injEq] at h
    obtain ⟨h1, h2⟩ := h
    cases h1
    rw [num_inj h2]
theorem nk_inj {p q : List Int × List Int} (h : nk p = nk q) : p = q := by
  unfold nk at h
  injection h with h
  simp only [List.cons.injEq] at h
  obtain ⟨h1, h2, _⟩ := h
  injection h1 with h1
  injection h2 with h2
  exact Prod.ext (num_inj h1) (num_inj h2)
theorem num_depth : ∀ l : List Int, NestedKey.depthAll (l.map NestedKey.num) = 0
  | [] => by simp [NestedKey.depthAll]
  | x :: l => by simp [NestedKey.depthAll, NestedKey.depth, num_depth l]
theorem nk_depth (p : List Int × List Int) : (nk p).depth ≤ 8 := by
  unfold nk
  simp [NestedKey.depth, NestedKey.depthAll, num_depth]
section
variable {P : Program} {w : World} {H : Hp} {h : Heap} {a d : Addr} {ents : List NEnt}
theorem nested_ints : ∀ {l : List Int} {its : List Value}, Vals (l.map V.int) its → NestedAll h (l.map .num) its
  | [], _, v => by cases v; exact .nil
  | x :: l, _, v => by
    cases v with
    | cons v k =>
      obtain ⟨t, rfl⟩ := v
      exact .cons (.int x t) (nested_ints k)
theorem nested_row {l : List Int} (ok : HOk P w H h) (e : At H (.ref a) (dR l)) : NestedIs h (.tup (l.map .num)) (.ref a) := by
  obtain ⟨_, its, r, o, ho, hc, n, hd⟩ := ok _ _ e.row_tup
  exact .tup ho hc hd (nested_ints r)
theorem key_is {p s : List Int} (ok : HOk P w H h) (e : At H (.ref a) (.tuple [dR p, dR s])) : (nestedKind P w).is h (nk (p, s)) a := by
  obtain ⟨a', x, y, e1, ha, h1, h2⟩ := e.two
  cases e1
  obtain ⟨px, rfl, _⟩ := h1.of_row
  obtain ⟨py, rfl, _⟩ := h2.of_row
  obtain ⟨_, its, r, o, ho, hc, n, hd⟩ := ok _ _ ha
  cases r with
  | cons r1 r =>
    cases r with
    | cons r2 r =>
      cases r
      cases r1
      cases r2
      exact ⟨.tup ho hc hd (.cons (nested_row ok h1) (.cons (nested_row ok h2) .nil)), nk_depth _⟩
theorem memo_dict (ok : HOk P w H h) (m : Memo P w H d ents) : (d == sysModules) = false ∧ h.DictOfH (nestedKind P w) d (ents.map nx) := by
  obtain ⟨⟨hd, o, es, ep, ho, hc, hdat, he, hn⟩, _, _⟩ := (show ObjOk P w H h d (ndO P w d ents) from ok _ _ m.1)
  refine ⟨hd, o, es, ep, ho, hc, hdat, he, fun x hx => ?_, hn⟩
  obtain ⟨e, hm, rfl⟩ := List.mem_map.mp hx
  exact key_is ok (m.2 e hm)
theorem at_look : ∀ {ents : List NEnt} {k : List Int × List Int}, (atKey (ents.map nx) (nk k)).map (·.2) = (look ents k).map Value.bool
  | [], k => rfl
  | e :: ents, k => by
    have ih := at_look (ents := ents) (k := k)
    unfold atKey look at ih ⊢
    rw [List.map_cons, List.find?_cons, List.find?_cons]
    by_cases h : e.1 = k
    · rw [decide_eq_true h, decide_eq_true (show (nx e).1 = nk k by rw [← h]; rfl)]
      rfl
    · rw [decide_eq_false h, decide_eq_false (show ¬ (nx e).1 = nk k from fun z => h (nk_inj z))]
      exact ih
theorem nd_ok {ents : List NEnt} {H' : Hp} (hd : (d == sysModules) = false) (x : h.DictOfH (nestedKind P w) d (ents.map nx)) : ObjOk P w H' h d (ndO P w d ents) := by
  obtain ⟨o, es, ep, ho, hc, hdat, he, _, hn⟩ := x
  refine ⟨⟨hd, o, es, ep, ho, hc, hdat, he, hn⟩, ⟨o, ho⟩, ?_⟩
  rintro h1 h2 ⟨q0, o, es, ep, q1, q2⟩ k
  exact ⟨q0, o, es, ep, k _ q1, q2⟩
theorem Memo.mono {H' : Hp} (m : Memo P w H d ents) (e : Same H H') : Memo P w H' d ents := ⟨e _ _ m.1, fun x hx => (m.2 x hx).mono e⟩
end
def tNdNew (P : Program) (w : World) : TE := fun _ H Q => ∀ p, H p = none → Q (.ref p) (upd H p (ndO P w p []))
def tNdIn (P : Program) (w : World) (ty td : TE) : TE := fun σ H Q => ty σ H fun y H1 => td σ H1 fun x H2 => ∃ d b ents p s, x = .ref d ∧ y = .ref b ∧ Memo P w H2 d ents ∧ At H2 (.ref b) (.tuple [dR p, dR s]) ∧ Q (.bl (look ents (p, s)).isSome) H2
def tNdGet (P : Program) (w : World) (td ty : TE) : TE := fun σ H Q => td σ H fun x H1 => ty σ H1 fun y H2 => ∃ d b ents p s r, x = .ref d ∧ y = .ref b ∧ Memo P w H2 d ents ∧ At H2 (.ref b) (.tuple [dR p, dR s]) ∧ look ents (p, s) = some r ∧ Q (.bl r) H2
def sNdPut (P : Program) (w : World) (td ty tv : TE) : TS := fun D σ H => tv σ H fun v H1 => td σ H1 fun x H2 => ty σ H2 fun y H3 => ∃ d b ents p s r, v = .bl r ∧ x = .ref d ∧ y = .ref b ∧ Memo P w H3 d ents ∧ At H3 (.ref b) (.tuple [dR p, dR s]) ∧ (∀ e ∈ ents, e.1 = (p, s) → e.2.2 = r) ∧ ents.length ≤ 100000 ∧
  ∀ ents', (ents' = ents ∨ (ents' = ents ++ [((p, s), b, r)] ∧ ∀ e ∈ ents, e.1 ≠ (p, s))) → D.nx σ (upd H3 d (ndO P w d ents'))
section
variable {X : Cx} {o i e value : Expr} {pos pos' tpos : Pos} {td ty tv : TE}
theorem nd_room {A : Around} (hu : A.units + 65 < cLine) : (nestedKind X.prog X.w).room A.in1 := by
  show A.units + 1 + 8 < cLine
  omega
theorem pe_ndNew : PE X (.Dict [] [] pos) (tNdNew X.prog X.w) := ⟨fun pins s σ H Q I h =>
  wpAny_Dict_empty ⟨.ref s.heap.objs.size, _, I.laid (a := s.heap.objs.size) (o := ndO X.prog X.w s.heap.objs.size []) (t' := s.toks) (fun _ _ q => Heap.get?_push_of_some _ q) (Nat.le_refl _)
    (nd_ok (beq_eq_false_iff_ne.mpr (Ne.symm (Nat.ne_of_lt I.big))) (Heap.DictOfH.new s.heap)), rfl, h _ (I.hok.fresh (Nat.le_refl _))⟩⟩
theorem pc_ndIn (hu : X.A.units + 65 < cLine) (hi : PE X i ty) (ho : PE X o td) : PC X .In i o (tNdIn X.prog X.w ty td) := by
  refine ⟨fun pins s σ H Q I h => ?_⟩
  refine thn (hi.run pins s σ H _ I h) fun iv s1 ⟨y, H1, I1, ry, q1⟩ => thn (ho.run pins s1 σ H1 _ I1 q1) fun u s2 ⟨x, H2, I2, rx, d, b, ents, p, sn, ex, ey, m, hb, q2⟩ => ?_
  subst ex ey
  obtain rfl : u = Value.ref d := rx
  obtain rfl : iv = Value.ref b := ry
  obtain ⟨hd, dd⟩ := memo_dict I2.hok m
  refine wpAny_in_heap (nd_room (X := X) hu) (key_is I2.hok hb) hd dd ?_
  have q := congrArg Option.isSome (at_look (ents := ents) (k := (p, sn)))
  rw [Option.isSome_map, Option.isSome_map] at q
  exact ⟨.bl _, H2, I2.tok _, by rw [q]; rfl, q2⟩
theorem pe_ndGet (hu : X.A.units + 65 < cLine) (ho : PE X o td) (hi : PE X i ty) (hs : NoSl i) : PE X (.Subscript o i pos) (tNdGet X.prog X.w td ty) := by
  refine ⟨fun pins s σ H Q I h => ?_⟩
  refine subD_of PySem.F.slot_dict_getitem.lookup hs (thn (ho.run pins s σ H _ I h) fun u s1 ⟨x, H1, I1, rx, q1⟩ => thn (hi.run pins s1 σ H1 _ I1 q1) fun iv s2 ⟨y, H2, I2, ry, d, b, ents, p, sn, r, ex, ey, m, hb, hl, q2⟩ => ?_)
  subst ex ey
  obtain rfl : u = Value.ref d := rx
  obtain rfl : iv = Value.ref b := ry
  obtain ⟨hd, dd⟩ := memo_dict I2.hok m
  refine ⟨dd.typeIs, ?_⟩
  have q := at_look (ents := ents) (k := (p, sn))
  rw [hl] at q
  obtain ⟨pp, hp, hp2⟩ := Option.map_eq_some_iff.mp q
  refine wpAny_getItem_heap (nd_room (X := X) hu) (key_is I2.hok hb) dd hp ?_
  rw [hp2]
  exact ⟨.bl r, H2, I2.tok _, rfl, q2⟩
theorem ps_ndPut (hu : X.A.units + 65 < cLine) (ho : PE X o td) (hi : PE X i ty) (hv : PE X value tv) (hs : swapsWith value (some (.Subscript o i pos')) pos.line X.env = pure false) :
    PS X (.Assign [.Subscript o i pos'] value pos) (sNdPut X.prog X.w td ty tv) := by
  refine ⟨fun pins s σ H D I h => ?_⟩
  refine wpAny_Assign_Subscript (thn (hv.run pins s σ H _ I h) fun r0 s1 ⟨v, H1, I1, rv, q1⟩ => thn (ho.run pins s1 σ H1 _ I1 q1) fun u s2 ⟨x, H2, I2, rx, q2⟩ => thn (hi.run pins s2 σ H2 _ I2 q2) fun iv s3 ⟨y, H3, I3, ry, d, b, ents, p, sn, r, ev, ex, ey, m, hb, hl, hz, q3⟩ => ?_) hs
  subst ev ex ey
  obtain rfl : u = Value.ref d := rx
  obtain rfl : iv = Value.ref b := ry
  obtain rfl : r0 = Value.bool r := rv
  obtain ⟨hd, dd⟩ := memo_dict I3.hok m
  have q := at_look (ents := ents) (k := (p, sn))
  refine wpAny_setItem_heap (hsz := by rw [List.length_map]; exact small_ hz) (nd_room (X := X) hu) (key_is I3.hok hb) dd fun h' dd' hs' => ?_
  have go : ∀ ents', storedH (ents.map nx) (nk (p, sn)) b (.bool r) = ents'.map nx → (ents' = ents ∨ (ents' = ents ++ [((p, sn), b, r)] ∧ ∀ e ∈ ents, e.1 ≠ (p, sn))) → SP X pins D .next { s3 with heap := h', toks := s3.toks + (nestedKind X.prog X.w).draws (nk (p, sn)) } := fun ents' he hc => by
    rw [he] at dd'
    have dd2 := dd'
    obtain ⟨q0, es, ep, hq, _⟩ := dd'
    exact ⟨σ, _, d_write I3 (by rw [m.1]; exact True.intro) hs' ⟨q0, hq⟩ (nd_ok hd dd2), q3 ents' hc⟩
  cases hk : look ents (p, sn) with
  | none =>
    rw [hk] at q
    have qn : atKey (ents.map nx) (nk (p, sn)) = none := by simpa using q
    refine go (ents ++ [((p, sn), b, r)]) (by rw [storedH_new qn, List.map_append]; rfl) (.inr ⟨rfl, fun e he z => ?_⟩)
    unfold look at hk
    rw [Option.map_eq_none_iff] at hk
    have := List.find?_eq_none.mp hk e he
    simp [z] at this
  | some r' =>
    rw [hk] at q
    obtain ⟨pp, hp, _⟩ := Option.map_eq_some_iff.mp q
    refine go ents ?_ (.inl rfl)
    rw [storedH_old hp]
    have : ∀ l : List NEnt, (∀ e ∈ l, e.1 = (p, sn) → e.2.2 = r) → (l.map nx).map (putAt (nk (p, sn)) (.bool r)) = l.map nx := by
      intro l
      induction l with
      | nil => exact fun _ => rfl
      | cons e l ih =>
        intro h
        rw [List.map_cons, List.map_cons, ih fun x hx => h x (List.mem_cons_of_mem _ hx)]
        congr 1
        unfold putAt
        split
        · rename_i hz
          have h1 : e.1 = (p, sn) := nk_inj hz
          have h2 := h e List.mem_cons_self h1
          unfold nx
          rw [h2]
        · rfl
    exact this ents hl
end
end K26
set_option Elab.async false
set_option linter.all false
set_option maxRecDepth 100000
set_option maxHeartbeats 4000000
namespace K26
open PySem PySem.Spec PyProof.Rows L2 RZ RT
/-! ## way, shared: the plain law -/
theorem dot_add : ∀ {a b S : List Int}, a.length = b.length → dot (add a b) S = dot a S + dot b S
  | [], [], _, _ => by simp [add, dot]
  | [], _ :: _, _, h => by simp at h
  | _ :: _, [], _, h => by simp at h
  | _ :: _, _ :: _, [], _ => by simp [dot]
  | x :: a, y :: b, z :: S, h => by
    simp only [add, dot]
    rw [dot_add (by simpa using h), Int.add_mul]
    omega
theorem dot_sub : ∀ {a b S : List Int}, a.length = b.length → dot (sub a b) S = dot a S - dot b S
  | [], [], _, _ => by simp [sub, dot]
  | [], _ :: _, _, h => by simp at h
  | _ :: _, [], _, h => by simp at h
  | _ :: _, _ :: _, [], _ => by simp [dot]
  | x :: a, y :: b, z :: S, h => by
    simp only [sub, dot]
    rw [dot_sub (by simpa using h), Int.sub_mul]
    omega
mutual
/-- all the stocks of a tree -/
def wT (us : List Int) : Tr → Int
  | .nd s _ un => tot us s + wTs us un
def wTs (us : List Int) : List Tr → Int
  | [] => 0
  | c :: cs => wT us c + wTs us cs
end
mutual
theorem wT_nn {us : List Int} (hU : Us us) : ∀ t, Good us t → 0 ≤ wT us t
  | .nd s a un, h => by
    simp only [Good] at h
    simp only [wT]
    have h1 := (row_bd hU h.1).1
    have h2 := wTs_nn hU un h.2.2
    omega
theorem wTs_nn {us : List Int} (hU : Us us) : ∀ cs, GoodAll us cs → 0 ≤ wTs us cs
  | [], _ => Int.le_refl 0
  | c :: cs, h => by
    simp only [GoodAll] at h
    simp only [wTs]
    have h1 := wT_nn hU c h.1
    have h2 := wTs_nn hU cs h.2
    omega
end
theorem goodAll_drop {us : List Int} : ∀ {cs : List Tr} {n : Nat}, GoodAll us cs → GoodAll us (cs.drop n)
  | [], _, h => by simpa using h
  | c :: cs, 0, h => h
  | c :: cs, n + 1, h => by
    simp only [GoodAll] at h
    exact goodAll_drop (cs := cs) (n := n) h.2
theorem drop_get {cs : List Tr} {i : Nat} {c : Tr} (h : cs[i]? = some c) : cs.drop i = c :: cs.drop (i + 1) := by
  obtain ⟨h1, e1⟩ := List.getElem?_eq_some_iff.mp h
  rw [List.drop_eq_getElem_cons h1, e1]
/-- what the memo says is so -/
def MI (us : List Int) (T : Tr) (ents : List NEnt) : Prop := (ents.map (·.1)).Nodup ∧ ∀ e ∈ ents, ∃ r t, e.1.1 = flat r ∧ sub? r T = some t ∧ Row us e.1.2 ∧ tot us e.1.2 ≤ 20 ∧ (e.2.2 = true ↔ Le (st us (need us t)) (st us e.1.2))
theorem MI.det {us : List Int} {T t : Tr} {ents : List NEnt} (m : MI us T ents) {e : NEnt} (he : e ∈ ents) {r : List Nat} {s : List Int} (hk : e.1 = (flat r, s)) (ht : sub? r T = some t) : e.2.2 = true ↔ Le (st us (need us t)) (st us s) := by
  obtain ⟨r', t', h1, h2, _, _, h5⟩ := m.2 e he
  have e1 : flat r = flat r' := by rw [← h1, hk]
  have e2 := flat_inj e1
  subst e2
  rw [ht] at h2
  cases h2
  rw [h5, hk]
theorem MI.few {us : List Int} {T : Tr} {ents : List NEnt} (hU : Us us) (hu : us.length ≤ 2) (hT : (ysT T []).length ≤ 8) (m : MI us T ents) : ents.length ≤ 100000 := by
  have key := nodup_le (l := ents.map (·.1)) (c := (ysT T []).flatMap fun q => (cands 20 (us.length + 1)).map fun s => (q.1, s)) m.1 fun k hk => by
    obtain ⟨e, he, rfl⟩ := List.mem_map.mp hk
    obtain ⟨r, t, h1, h2, h3, h4, _⟩ := m.2 e he
    rw [List.mem_flatMap]
    refine ⟨(flat r, t), (mem_ysT T [] _).mpr ⟨r, rfl, h2⟩, List.mem_map.mpr ⟨e.1.2, ?_, ?_⟩⟩
    · have := mem_cands (B := 20) (r := e.1.2) fun x hx => ⟨((row_bd hU h3).2 x hx).1, by have := ((row_bd hU h3).2 x hx).2; omega⟩
      rwa [h3.1] at this
    · exact Prod.ext h1.symm rfl
  have hl : ∀ (l : List (List Int × Tr)) (c : List (List Int)), (l.flatMap fun q => c.map fun s => (q.1, s)).length = l.length * c.length := by
    intro l c
    induction l with
    | nil => simp
    | cons a l ih => rw [List.flatMap_cons, List.length_append, ih, List.length_map, List.length_cons, Nat.succ_mul, Nat.add_comm]
  rw [hl, cands_len, List.length_map] at key
  have key : ents.length ≤ (ysT T []).length * 21 ^ (us.length + 1) := key
  have h1 : 21 ^ (us.length + 1) ≤ 21 ^ 3 := Nat.pow_le_pow_right (by decide) (by omega)
  have h2 : (ysT T []).length * 21 ^ (us.length + 1) ≤ 8 * 21 ^ 3 := Nat.mul_le_mul hT h1
  have h3 : 8 * 21 ^ 3 ≤ 100000 := by decide
  omega
theorem MI.put {us : List Int} {T t : Tr} {ents ents' : List NEnt} {r : List Nat} {s : List Int} {a : Addr} {b : Bool} (m : MI us T ents) (ht : sub? r T = some t) (hs : Row us s) (htot : tot us s ≤ 20) (hb : b = true ↔ Le (st us (need us t)) (st us s))
    (h : ents' = ents ∨ (ents' = ents ++ [((flat r, s), a, b)] ∧ ∀ e ∈ ents, e.1 ≠ (flat r, s))) : MI us T ents' := by
  rcases h with rfl | ⟨rfl, hn⟩
  · exact m
  · refine ⟨?_, fun e he => ?_⟩
    · rw [List.map_append, List.nodup_append]
      refine ⟨m.1, by simp, fun x hx y hy => ?_⟩
      rw [List.map_singleton, List.mem_singleton] at hy
      subst hy
      obtain ⟨e, he, rfl⟩ := List.mem_map.mp hx
      exact hn e he
    · rcases List.mem_append.mp he with he | he
      · exact m.2 e he
      · rw [List.mem_singleton] at he
        subst he
        exact ⟨r, t, rfl, ht, hs, htot, hb⟩
theorem look_mem {ents : List NEnt} {k : List Int × List Int} {b : Bool} (h : look ents k = some b) : ∃ e ∈ ents, e.1 = k ∧ e.2.2 = b := by
  unfold look at h
  obtain ⟨e, he, rfl⟩ := Option.map_eq_some_iff.mp h
  exact ⟨e, List.mem_of_find?_eq_some he, by simpa using List.find?_some he, rfl⟩
/-! ## the walk -/
def spWay (P : Program) (w : World) (N : Nat) : Sp := fun vs H Q _ => ∃ (u v y x : V) (d : Addr) (us : List Int) (T t : Tr) (r : List Nat) (sent : List Int) (ents : List NEnt), vs = [u, v, y, x, .ref d] ∧ At H u (dR us) ∧ Us us ∧ us.length ≤ 2 ∧ (ysT T []).length ≤ 8 ∧ Good us T ∧ sub? r T = some t ∧
  At H v (trD t) ∧ At H y (dR (flat r)) ∧ At H x (dR sent) ∧ Row us sent ∧ wT us t + tot us sent ≤ 20 ∧ Memo P w H d ents ∧ MI us T ents ∧ 2 * (ysT t []).length < N ∧
  ∀ (b : Bool) (H' : Hp) (ents' : List NEnt), Fr d d H H' → Memo P w H' d ents' → MI us T ents' → (b = true ↔ Le (st us (need us t)) (st us sent)) → Q (.bl b) H'
def spShared (P : Program) (w : World) (N : Nat) : Sp := fun vs H Q _ => ∃ (u v y x : V) (d : Addr) (us : List Int) (T : Tr) (s a : List Int) (un : List Tr) (r : List Nat) (i : Nat) (left : List Int) (ents : List NEnt), vs = [u, v, y, .int (i : Int), x, .ref d] ∧ At H u (dR us) ∧ Us us ∧ us.length ≤ 2 ∧ (ysT T []).length ≤ 8 ∧ Good us T ∧ sub? r T = some (.nd s a un) ∧
  At H v (trD (.nd s a un)) ∧ At H y (dR (flat r)) ∧ At H x (dR left) ∧ Row us left ∧ i ≤ un.length ∧ wTs us (un.drop i) + tot us left ≤ 20 ∧ Memo P w H d ents ∧ MI us T ents ∧ 2 * (yss (un.drop i) [] 0).length + 1 < N ∧
  ∀ (b : Bool) (H' : Hp) (ents' : List NEnt), Fr d d H H' → Memo P w H' d ents' → MI us T ents' → (b = true ↔ Shr us (un.drop i) left) → Q (.bl b) H'
theorem Memo.nt {P : Program} {w : World} {H : Hp} {d : Addr} {ents : List NEnt} (m : Memo P w H d ents) : NT H d := fun xs z => by
  rw [m.1] at z
  have z' : HO.ext _ = HO.tup xs := Option.some.inj z
  cases z'
theorem At.memo {P : Program} {w : World} {H H' : Hp} {d : Addr} {ents : List NEnt} {v : V} {x : PyData} (h : At H v x) (m : Memo P w H d ents) (e : Fr d d H H') (n : noL x = true) : At H' v x := At.fr e m.nt m.nt h n
theorem AtAll.memo {P : Program} {w : World} {H H' : Hp} {d : Addr} {ents : List NEnt} {v : List V} {x : List PyData} (h : AtAll H v x) (m : Memo P w H d ents) (e : Fr d d H H') (n : noLs x = true) : AtAll H' v x := AtAll.fr e m.nt m.nt h n
theorem _root_.K26.Fr.at_tup {P : Program} {w : World} {H H' : Hp} {d a : Addr} {xs : List V} {ents : List NEnt} (e : Fr d d H H') (m : Memo P w H d ents) (h : H a = some (.tup xs)) : H' a = some (.tup xs) :=
  e _ _ (fun z => m.nt xs (by rw [← z]; exact h)) (fun z => m.nt xs (by rw [← z]; exact h)) h
section
variable {P : Program} {w : World} {K : PySem.W.Frag} {mg : Str → Option Value} {base : Heap} {f fs : Addr} {fd fds : FuncData} {A : XA}
theorem sc_law_way : FnScope ["_law_units_so", "_law_tree_so", "_law_path", "_law_sent", "_law_seen", "_law_answer", "_law_left"] ["_law_units_so", "_law_tree_so", "_law_path", "_law_sent", "_law_seen"] (defScope (top 60)) := ⟨rfl, rfl, rfl, by decide +kernel, rfl, by decide +kernel, by decide +kernel⟩
theorem sc_law_shared : FnScope ["_law_units_so", "_law_tree_so", "_law_path", "_law_index", "_law_left", "_law_seen", "_law_part"] ["_law_units_so", "_law_tree_so", "_law_path", "_law_index", "_law_left", "_law_seen"] (defScope (top 61)) := ⟨rfl, rfl, rfl, by decide +kernel, rfl, by decide +kernel, by decide +kernel⟩
theorem ok_way (B : Bi mg) (C_law_lefts : Cal P w K mg base CX0 2 "_law_lefts" ["_law_units_so", "_law_stock", "_law_order"] spLefts) (C_law_beside : Cal P w K mg base CX0 1 "_law_beside" ["_law_one", "_law_other"] spAdd) {N : Nat}
    (C_law_shared : Cal P w K mg base CX0 (N + 3) "_law_shared" ["_law_units_so", "_law_tree_so", "_law_path", "_law_index", "_law_left", "_law_seen"] (spShared P w N)) (F : FnP K "_law_way" (top 60) f fd) :
    FnOk P w K mg base CX0 (N + 4) f fd ["_law_units_so", "_law_tree_so", "_law_path", "_law_sent", "_law_seen"] (spWay P w (N + 1)) := by
  refine ok0 F sc_law_way (fun vs H Q E h => by obtain ⟨_, _, _, _, _, _, _, _, _, _, _, rfl, _⟩ := h; rfl) (fun cdv A' outer s0 H vs Q E hr h => ?_)
  obtain ⟨u, v, y, x, d, us, T, t, r, sent, ents, rfl, hu, hU, hu2, hT8, hgT, hsub, hv, hy, hx, hsent, hw, hm, hmi, hN, k⟩ := h
  refine ⟨(tSeq (tIfS (tB (tNdIn P w (tTup (tCons (tVar 2) (tCons (tVar 3) tNil))) (tVar 4))) (tRet (tNdGet P w (tVar 4) (tTup (tCons (tVar 2) (tCons (tVar 3) tNil))))) tNext)
  (tSeq (tAsg (tC (.bl false)) (gName 5))
  (tSeq (tFor (iList K (tCall spLefts [] E0 (tCons (tVar 0) (tCons (tCall spAdd [] E0 (tCons (tOp (rIxT K) (tVar 1) (tC (.int 0))) (tCons (tVar 3) tNil))) (tCons (tOp (rIxT K) (tVar 1) (tC (.int 1))) tNil))))) (gName 6) (tAsg (tOrV (tVar 5) (tCall (spShared P w N) [] E0 (tCons (tVar 0) (tCons (tVar 1) (tCons (tVar 2) (tCons (tC (.int 0)) (tCons (tVar 6) (tCons (tVar 4) tNil)))))))) (gName 5)))
  (tSeq (sNdPut P w (tVar 4) (tTup (tCons (tVar 2) (tCons (tVar 3) tNil))) (tVar 5))
  (tRet (tVar 5)))))),
    (pss_cons (ps_if (pt_cmp (pc_ndIn (hu65_of hr) (pe_tup (pa_cons (pv 2) (pa_cons (pv 3) pa_nil))) (pv 4)))
  (pss_one (ps_ret (pe_ndGet (hu65_of hr) (pv 4) (pe_tup (pa_cons (pv 2) (pa_cons (pv 3) pa_nil))) (fun _ _ => rfl))))
  pss_nil)
  (pss_cons (ps_set (i := 5) sc_law_way.nd rfl (by first | exact Or.inl rfl | exact Or.inr rfl) pe_bl)
  (pss_cons (ps_for PassesOwn.never rfl (pi_list (pe_cal C_law_lefts hr (by first | decide | omega) (by rfl) pass0 (pa_cons (pv 0) (pa_cons (pe_cal C_law_beside hr (by first | decide | omega) (by rfl) pass0 (pa_cons (pe_ix ix_tup (pv 1) pe_int (fun _ _ => rfl)) (pa_cons (pv 3) pa_nil))) (pa_cons (pe_ix ix_tup (pv 1) pe_int (fun _ _ => rfl)) pa_nil))))) (pg_name (i := 6) sc_law_way.nd rfl (by first | exact Or.inl rfl | exact Or.inr rfl))
  (pss_one (ps_set (i := 5) sc_law_way.nd rfl (by first | exact Or.inl rfl | exact Or.inr rfl) (pe_or (pv 5) (pe_one (pe_cal C_law_shared hr (by first | decide | omega) (by rfl) pass0 (pa_cons (pv 0) (pa_cons (pv 1) (pa_cons (pv 2) (pa_cons pe_int (pa_cons (pv 6) (pa_cons (pv 4) pa_nil))))))))))))
  (pss_cons (ps_ndPut (hu65_of hr) (pv 4) (pe_tup (pa_cons (pv 2) (pa_cons (pv 3) pa_nil))) (pv 5) rfl)
  (pss_one (ps_ret (pv 5))))))), ?_⟩
  have gt := good_sub hgT hsub
  refine ⟨_, rfl, _, rfl, small_ (by simp), fun t1 ht1 => ?_⟩
  have n1 := same_new (o := .tup [y, x]) ht1
  refine ⟨_, rfl, d, t1, ents, flat r, sent, rfl, rfl, hm.mono n1, .tup upd_same (.cons (hy.mono n1) (.cons (hx.mono n1) .nil)), _, rfl, ?_⟩
  cases hk : look ents (flat r, sent) with
  | some b =>
    refine iteT ⟨_, rfl, _, rfl, _, rfl, small_ (by simp), fun t2 ht2 => ?_⟩
    have n2 := n1.trans (same_new (o := .tup [y, x]) ht2)
    obtain ⟨e, he, h1, h2⟩ := look_mem hk
    refine ⟨d, t2, ents, flat r, sent, b, rfl, rfl, hm.mono n2, .tup upd_same (.cons (hy.mono n2) (.cons (hx.mono n2) .nil)), hk, k b _ ents (.of n2) (hm.mono n2) hmi ?_⟩
    rw [← h2]
    exact hmi.det he h1 hsub
  | none =>
    refine iteF ?_
    obtain ⟨s, a, un⟩ := t
    have gt' := gt
    simp only [Good] at gt
    simp only [wT] at hw
    have hwn := wTs_nn hU un gt.2.2
    obtain ⟨p4, w0, w1, p6, ks, rfl, q4, v0, v1, q6, vks⟩ := hv.tr
    refine ⟨_, rfl, _, rfl, p4, _, 0, _, rfl, rfl, sqT (n1 _ _ q4), atI_nat (j := 0) rfl, _, rfl, _, _, s, sent, rfl, v0.mono n1, hx.mono n1, by rw [gt.1.1, hsent.1], by rw [gt.1.1]; omega, fun v2 H2 e2 a2 => ?_⟩
    have e02 := n1.trans e2
    have radd := gt.1.add hsent
    have htadd : tot us (add s sent) = tot us s + tot us sent := dot_add (by rw [gt.1.1, hsent.1])
    refine ⟨_, rfl, p4, _, 1, _, rfl, rfl, sqT (e02 _ _ q4), atI_nat (j := 1) rfl, u, v2, w1, us, add s sent, a, rfl, hu.mono e02, hU, hu2, a2, radd, by omega, v1.mono e02, gt.2.1.1, fun p xs H3 M e3 hp0 hp3 hM hMl hmem => ?_⟩
    have e03 := e02.trans e3
    have hlM : xs.length = M.length := by have := hM.len; rwa [List.length_map] at this
    have hpd : p ≠ d := fun z => by rw [z, e02 _ _ hm.1] at hp0; cases hp0
    refine ⟨p, rfl, ⟨xs, sqL hp3⟩, ?_⟩
    refine for_it (walk_list (xs := xs)) (fun i σ H' => ∃ (b : Bool) (y6 : Option V) (ents' : List NEnt), σ = [some u, some (.ref p4), some y, some x, some (.ref d), some (.bl b), y6] ∧ Fr d d H H' ∧ Memo P w H' d ents' ∧ MI us T ents' ∧ H' p = some (.lst xs) ∧ AtAll H' xs (M.map dR) ∧ (b = true ↔ ∃ l ∈ M.take i, Shr us un l))
      ⟨false, none, ents, rfl, .of e03, hm.mono e03, hmi, hp3, hM, by simp⟩ (fun i σ H' _ h => ?_) ?_ ?_
    · obtain ⟨_, _, _, _, _, _, _, h, _⟩ := h
      exact sqL h
    · rintro i z σ H4o H4 hi ⟨b, y6, ents4, rfl, e4, hm4, hmi4, hp4, hM4, hb⟩ hY
      obtain ⟨rfl, hz⟩ := hY
      obtain ⟨dd, hd, ad⟩ := hM4.getv hz
      rw [List.getElem?_map] at hd
      obtain ⟨l, hl, rfl⟩ : ∃ l, M[i]? = some l ∧ dR l = dd := by
        cases hq : M[i]? with
        | none => rw [hq] at hd; cases hd
        | some q => rw [hq] at hd; exact ⟨q, rfl, Option.some.inj hd⟩
      obtain ⟨t', ht1', ht2', rfl⟩ := (hmem l).mp (List.mem_of_getElem? hl)
      obtain ⟨rt', htt'⟩ := reach_row ht1' hU.ps radd
      have lt' : t'.length = a.length := by rw [rt'.1, gt.2.1.1]
      have rl : Row us (sub t' a) := ⟨by rw [sub_len lt', gt.2.1.1], (sub_nn_iff lt'.symm).mpr ht2'⟩
      have htl : tot us (sub t' a) = tot us t' - tot us a := dot_sub lt'
      have ha0 := (row_bd hU gt.2.1).1
      have et : M.take (i + 1) = M.take i ++ [sub t' a] := by rw [List.take_succ, hl]; rfl
      refine ⟨_, rfl, _, rfl, ?_⟩
      cases b with
      | true =>
        refine iteT ⟨true, _, ents4, rfl, e4, hm4, hmi4, hp4, hM4, fun _ => ?_, fun _ => rfl⟩
        obtain ⟨l, h1, h2⟩ := hb.mp rfl
        exact ⟨l, by rw [et]; exact List.mem_append_left _ h1, h2⟩
      | false =>
        refine iteF ⟨_, rfl, _, rfl, _, rfl, _, rfl, _, rfl, u, .ref p4, y, z, d, us, T, s, a, un, r, 0, sub t' a, ents4, rfl, hu.memo hm e4 (noL_dR _), hU, hu2, hT8, hgT, hsub, hv.memo hm e4 (noL_trD _), hy.memo hm e4 (noL_dR _), ad, rl, Nat.zero_le _, ?_, hm4, hmi4, ?_, fun b H5 ents5 e5 hm5 hmi5 hb5 => ?_⟩
        · rw [List.drop_zero]
          omega
        · rw [List.drop_zero]
          rw [ysT, List.length_cons] at hN
          omega
        · refine ⟨b, _, ents5, rfl, e4.trans e5, hm5, hmi5, e5 _ _ hpd hpd hp4, hM4.memo hm4 e5 (noL_rows M), ?_⟩
          rw [hb5, et, List.drop_zero]
          constructor
          · intro h
            exact ⟨_, List.mem_append_right _ (by simp), h⟩
          · rintro ⟨l, h1, h2⟩
            rcases List.mem_append.mp h1 with h1 | h1
            · exact absurd (hb.mpr ⟨l, h1, h2⟩) (by simp)
            · rw [List.mem_singleton] at h1
              rw [← h1]
              exact h2
    · rintro σ H4 ⟨b, y6, ents4, rfl, e4, hm4, hmi4, hp4, hM4, hb⟩
      rw [List.take_of_length_le (by omega)] at hb
      have hbw : b = true ↔ Le (st us (need us (.nd s a un))) (st us sent) := by
        rw [hb, way_iff hU.ps gt' hsent]
        constructor
        · rintro ⟨l, h1, h2⟩
          obtain ⟨t', h3, h4, rfl⟩ := (hmem l).mp h1
          exact ⟨t', h3, h4, h2⟩
        · rintro ⟨t', h3, h4, h2⟩
          exact ⟨_, (hmem _).mpr ⟨t', h3, h4, rfl⟩, h2⟩
      have htot : tot us sent ≤ 20 := by
        have := (row_bd hU gt.1).1
        omega
      refine ⟨_, rfl, _, rfl, _, rfl, _, rfl, small_ (by simp), fun t5 ht5 => ?_⟩
      have n5 := same_new (o := .tup [y, x]) ht5
      have hy4 := hy.memo hm e4 (noL_dR _)
      have hx4 := hx.memo hm e4 (noL_dR _)
      have akey : At (upd H4 t5 (.tup [y, x])) (.ref t5) (.tuple [dR (flat r), dR sent]) := .tup upd_same (.cons (hy4.mono n5) (.cons (hx4.mono n5) .nil))
      have hm5 := hm4.mono n5
      refine ⟨d, t5, ents4, flat r, sent, b, rfl, rfl, rfl, hm5, akey, fun e he hke => ?_, hmi4.few hU hu2 hT8, fun ents' hents => ⟨_, rfl, k b _ ents' ?_ ?_ (hmi4.put hsub hsent htot hbw hents) hbw⟩⟩
      · have h1 := hmi4.det he hke hsub
        rw [← hbw] at h1
        exact Bool.eq_iff_iff.mpr h1
      · exact (e4.trans (.of n5)).trans fun c o h1 _ h => by rw [upd_ne h1]; exact h
      · refine ⟨upd_same, fun e he => ?_⟩
        have h1 : At (upd H4 t5 (.tup [y, x])) (.ref e.2.1) (.tuple [dR e.1.1, dR e.1.2]) := by
          rcases hents with rfl | ⟨rfl, _⟩
          · exact hm5.2 e he
          · rcases List.mem_append.mp he with he | he
            · exact hm5.2 e he
            · rw [List.mem_singleton] at he
              subst he
              exact akey
        exact h1.mut hm5.nt (by simp [noL, noLs, noL_dR])
theorem ok_shared (B : Bi mg) (C_law_parts : Cal P w K mg base CX0 1 "_law_parts" ["_law_row_here"] spParts) (C_law_without : Cal P w K mg base CX0 1 "_law_without" ["_law_row_here", "_law_order"] spSub) {N : Nat}
    (C_law_way : Cal P w K mg base CX0 (N + 3) "_law_way" ["_law_units_so", "_law_tree_so", "_law_path", "_law_sent", "_law_seen"] (spWay P w N)) (C_law_shared : Cal P w K mg base CX0 (N + 3) "_law_shared" ["_law_units_so", "_law_tree_so", "_law_path", "_law_index", "_law_left", "_law_seen"] (spShared P w N))
    (F : FnP K "_law_shared" (top 61) f fd) : FnOk P w K mg base CX0 (N + 4) f fd ["_law_units_so", "_law_tree_so", "_law_path", "_law_index", "_law_left", "_law_seen"] (spShared P w (N + 1)) := by
  refine ok0 F sc_law_shared (fun vs H Q E h => by obtain ⟨_, _, _, _, _, _, _, _, _, _, _, _, _, _, rfl, _⟩ := h; rfl) (fun cdv A' outer s0 H vs Q E hr h => ?_)
  obtain ⟨u, v, y, x, d, us, T, s, a, un, r, i, left, ents, rfl, hu, hU, hu2, hT8, hgT, hsub, hv, hy, hx, hleft, hi, hw, hm, hmi, hN, k⟩ := h
  refine ⟨(tSeq (tIfS (tTest (tOp rEq (tVar 3) (tCB (rLenQ K) (tCons (tOp (rIxT K) (tVar 1) (tC (.int 2))) tNil)))) (tRet (tC (.bl true))) tNext)
  (tSeq (tFor (iList K (tCall spParts [] E0 (tCons (tVar 4) tNil))) (gName 6) (tIfS (tB (tCall (spWay P w N) [] E0 (tCons (tVar 0) (tCons (tOp (rIxT K) (tOp (rIxT K) (tVar 1) (tC (.int 2))) (tVar 3)) (tCons (tOp (rCatA K) (tVar 2) (tTup (tCons (tC (.int 2)) (tCons (tVar 3) tNil)))) (tCons (tVar 6) (tCons (tVar 5) tNil))))))) (tIfS (tB (tCall (spShared P w N) [] E0 (tCons (tVar 0) (tCons (tVar 1) (tCons (tVar 2) (tCons (tOp (rI0 fun i j => .int (i + j)) (tVar 3) (tC (.int 1))) (tCons (tCall spSub [] E0 (tCons (tVar 4) (tCons (tVar 6) tNil))) (tCons (tVar 5) tNil)))))))) (tRet (tC (.bl true))) tNext) tNext))
  (tRet (tC (.bl false))))),
    (pss_cons (ps_if (pt_cmpR op_eq (pv 3) (pe_callB call_lenQ (by rfl) B.len (by decide +kernel) (pa_cons (pe_ix ix_tup (pv 1) pe_int (fun _ _ => rfl)) pa_nil)) (nomark _))
  (pss_one (ps_ret pe_bl))
  pss_nil)
  (pss_cons (ps_for PassesOwn.never rfl (pi_list (pe_cal C_law_parts hr (by first | decide | omega) (by rfl) pass0 (pa_cons (pv 4) pa_nil))) (pg_name (i := 6) sc_law_shared.nd rfl (by first | exact Or.inl rfl | exact Or.inr rfl))
  (pss_one (ps_if (pt_val (pe_cal C_law_way hr (by first | decide | omega) (by rfl) pass0 (pa_cons (pv 0) (pa_cons (pe_ix ix_tup (pe_ix ix_tup (pv 1) pe_int (fun _ _ => rfl)) (pv 3) (fun _ _ => rfl)) (pa_cons (pe_op op_catA (pv 2) (pe_tup (pa_cons pe_int (pa_cons (pv 3) pa_nil)))) (pa_cons (pv 6) (pa_cons (pv 5) pa_nil)))))))
  (pss_one (ps_if (pt_val (pe_cal C_law_shared hr (by first | decide | omega) (by rfl) pass0 (pa_cons (pv 0) (pa_cons (pv 1) (pa_cons (pv 2) (pa_cons (pe_op op_add (pv 3) pe_int) (pa_cons (pe_cal C_law_without hr (by first | decide | omega) (by rfl) pass0 (pa_cons (pv 4) (pa_cons (pv 6) pa_nil))) (pa_cons (pv 5) pa_nil))))))))
  (pss_one (ps_ret pe_bl))
  pss_nil))
  pss_nil)))
  (pss_one (ps_ret pe_bl)))), ?_⟩
  have gt := good_sub hgT hsub
  simp only [Good] at gt
  obtain ⟨p4, w0, w1, p6, ks, rfl, q4, v0, v1, q6, vks⟩ := hv.tr
  have lks := vks.len
  rw [trDs_map, List.length_map] at lks
  refine ⟨_, rfl, _, rfl, p4, _, 2, _, rfl, rfl, sqT q4, atI_nat (j := 2) rfl, p6, _, rfl, .inr (sqT q6), rfl, _, rfl, ?_⟩
  by_cases hiu : i = un.length
  · rw [decide_eq_true (by rw [lks, hiu])]
    refine iteT (k true H ents .refl hm hmi ⟨fun _ => ?_, fun _ => rfl⟩)
    rw [hiu, List.drop_length]
    trivial
  · rw [decide_eq_false (by rw [lks]; intro z; injection z with z; omega)]
    have hil : i < un.length := by omega
    have hc : un[i]? = some (un[i]'hil) := List.getElem?_eq_getElem hil
    obtain ⟨c, hc⟩ : ∃ c, un[i]? = some c := ⟨_, hc⟩
    have edrop := drop_get hc
    have gd := goodAll_drop (n := i) gt.2.2
    rw [edrop] at hw hN gd
    simp only [wTs] at hw
    simp only [GoodAll] at gd
    have hwc := wT_nn hU c gd.1
    have hwr := wTs_nn hU _ gd.2
    have hl0 := row_bd hU hleft
    have hsubc : sub? (r ++ [i]) T = some c := by rw [sub_snoc hsub]; exact hc
    have hlz : (ysT c []).length + (yss (un.drop (i + 1)) [] 0).length ≤ (yss (c :: un.drop (i + 1)) [] 0).length := by
      have h1 := len_ysT c ([] ++ [2, ((0 : Nat) : Int)]) []
      have h2 := len_yss (un.drop (i + 1)) [] [] 0 (0 + 1)
      rw [yss, List.length_append, h1, h2]
      exact Nat.le_refl _
    have hpos := ysT_pos (t := c) (p := [])
    refine iteF ⟨_, rfl, x, left, rfl, hx, by rw [hleft.1]; omega, fun z hz => ⟨(hl0.2 z hz).1, by have := (hl0.2 z hz).2; omega⟩, fun p xs H3 M e3 hp0 hp3 hM hMl hmem => ?_⟩
    have hlM : xs.length = M.length := by have := hM.len; rwa [List.length_map] at this
    have hpd : p ≠ d := fun z => by rw [z, hm.1] at hp0; cases hp0
    have hc' : (trDs un)[i]? = some (trD c) := by rw [trDs_map, List.getElem?_map, hc]; rfl
    obtain ⟨zc, ezc, azc⟩ := vks.get hc'
    refine ⟨p, rfl, ⟨xs, sqL hp3⟩, ?_⟩
    refine for_it (walk_list (xs := xs)) (fun j σ H' => ∃ (y6 : Option V) (ents' : List NEnt), σ = [some u, some (.ref p4), some y, some (.int (i : Nat)), some x, some (.ref d), y6] ∧ Fr d d H H' ∧ Memo P w H' d ents' ∧ MI us T ents' ∧ H' p = some (.lst xs) ∧ AtAll H' xs (M.map dR) ∧ ∀ q ∈ M.take j, ¬ (Le (st us (need us c)) (st us q) ∧ Shr us (un.drop (i + 1)) (sub left q)))
      ⟨none, ents, rfl, .of e3, hm.mono e3, hmi, hp3, hM, by simp⟩ (fun i σ H' _ h => ?_) ?_ ?_
    · obtain ⟨_, _, _, _, _, _, h, _⟩ := h
      exact sqL h
    · rintro j z σ H4o H4 hj ⟨y6, ents4, rfl, e4, hm4, hmi4, hp4, hM4, hnone⟩ hY
      obtain ⟨rfl, hz⟩ := hY
      obtain ⟨dd, hd, ad⟩ := hM4.getv hz
      rw [List.getElem?_map] at hd
      obtain ⟨q, hq, rfl⟩ : ∃ q, M[j]? = some q ∧ dR q = dd := by
        cases hq : M[j]? with
        | none => rw [hq] at hd; cases hd
        | some q => rw [hq] at hd; exact ⟨q, rfl, Option.some.inj hd⟩
      obtain ⟨ql, qn, qle⟩ := (hmem q).mp (List.mem_of_getElem? hq)
      have rq : Row us q := ⟨by rw [ql, hleft.1], qn⟩
      have rlq : Row us (sub left q) := ⟨by rw [sub_len ql.symm, rq.1], (sub_nn_iff ql).mpr qle⟩
      have tlq : tot us (sub left q) = tot us left - tot us q := dot_sub ql.symm
      have tq := (row_bd hU rq).1
      have tlq0 := (row_bd hU rlq).1
      have et : M.take (j + 1) = M.take j ++ [q] := by rw [List.take_succ, hq]; rfl
      have q4' := e4.at_tup hm q4
      have q6' := e4.at_tup hm q6
      obtain ⟨py, rfl, hpy⟩ := hy.of_row
      refine ⟨_, rfl, _, rfl, p4, _, 2, _, rfl, rfl, sqT q4', atI_nat (j := 2) rfl, _, rfl, p6, ks, _, zc, rfl, rfl, sqT q6', atI_nat ezc, _, rfl, _, rfl, small_ (by simp), fun t1 ht1 => ?_⟩
      have n1 := same_new (o := .tup [.int 2, .int (i : Nat)]) ht1
      have hy4 := hy.memo hm e4 (noL_dR _)
      refine cat_row (hy4.mono n1) (At.row (l := [2, (i : Int)]) upd_same) ?_ fun vp H5 e5 ap => ?_
      · have := len_sub hsub
        rw [flat_len]
        simp
        omega
      have e45 := n1.trans e5
      have ap' : At H5 vp (dR (flat (r ++ [i]))) := by rw [flat_app]; exact ap
      refine ⟨_, rfl, _, rfl, u, zc, vp, z, d, us, T, c, r ++ [i], q, ents4, rfl, (hu.memo hm e4 (noL_dR _)).mono e45, hU, hu2, hT8, hgT, hsubc, (azc.memo hm e4 (noL_trD _)).mono e45, ap', ad.mono e45, rq, by omega, hm4.mono e45, hmi4, by omega, fun b H6 ents6 e6 hm6 hmi6 hb6 => ?_⟩
      have f46 : Fr d d H4 H6 := (Fr.of e45).trans e6
      have f06 := e4.trans f46
      have next : ∀ (H7 : Hp) (ents7 : List NEnt), Fr d d H H7 → Memo P w H7 d ents7 → MI us T ents7 → H7 p = some (.lst xs) → AtAll H7 xs (M.map dR) → ¬ (Le (st us (need us c)) (st us q) ∧ Shr us (un.drop (i + 1)) (sub left q)) →
          ∃ (y6 : Option V) (ents' : List NEnt), [some u, some (.ref p4), some (.ref py), some (.int (i : Nat)), some x, some (.ref d), some z] = [some u, some (.ref p4), some (.ref py), some (.int (i : Nat)), some x, some (.ref d), y6] ∧ Fr d d H H7 ∧ Memo P w H7 d ents' ∧ MI us T ents' ∧ H7 p = some (.lst xs) ∧ AtAll H7 xs (M.map dR) ∧ ∀ q ∈ M.take (j + 1), ¬ (Le (st us (need us c)) (st us q) ∧ Shr us (un.drop (i + 1)) (sub left q)) := by
        intro H7 ents7 f7 hm7 hmi7 hp7 hM7 hno
        refine ⟨_, ents7, rfl, f7, hm7, hmi7, hp7, hM7, fun q' hq' => ?_⟩
        rw [et] at hq'
        rcases List.mem_append.mp hq' with hq' | hq'
        · exact hnone q' hq'
        · rw [List.mem_singleton] at hq'
          rw [hq']
          exact hno
      have hp6 := f46 _ _ hpd hpd hp4
      have hM6 := hM4.memo hm4 f46 (noL_rows M)
      refine ⟨_, rfl, ?_⟩
      cases b with
      | false => exact iteF (next H6 ents6 f06 hm6 hmi6 hp6 hM6 fun z => absurd (hb6.mpr z.1) (by simp))
      | true =>
        refine iteT ⟨_, rfl, _, rfl, _, rfl, _, rfl, _, 1, rfl, rfl, _, rfl, _, rfl, x, z, left, q, rfl, hx.memo hm f06 (noL_dR _), ad.memo hm4 f46 (noL_dR _), ql.symm, by rw [hleft.1]; omega, fun v8 H8 e8 a8 => ?_⟩
        have f08 := f06.trans (.of e8)
        have f48 := f46.trans (.of e8)
        refine ⟨_, rfl, u, .ref p4, .ref py, v8, d, us, T, s, a, un, r, i + 1, sub left q, ents6, rfl, hu.memo hm f08 (noL_dR _), hU, hu2, hT8, hgT, hsub, hv.memo hm f08 (noL_trD _), hy.memo hm f08 (noL_dR _), a8, rlq, by omega, by omega, hm6.mono e8, hmi6, by omega, fun b H9 ents9 e9 hm9 hmi9 hb9 => ?_⟩
        refine ⟨_, rfl, ?_⟩
        have f09 := f08.trans e9
        have f49 := f48.trans e9
        cases b with
        | false => exact iteF (next H9 ents9 f09 hm9 hmi9 (f49 _ _ hpd hpd hp4) (hM4.memo hm4 f49 (noL_rows M)) fun z => absurd (hb9.mpr z.2) (by simp))
        | true =>
          refine iteT (k true H9 ents9 f09 hm9 hmi9 ⟨fun _ => ?_, fun _ => rfl⟩)
          rw [edrop]
          exact ⟨q, qn, qle, hb6.mp rfl, hb9.mp rfl⟩
    · rintro σ H4 ⟨y6, ents4, rfl, e4, hm4, hmi4, hp4, hM4, hnone⟩
      rw [List.take_of_length_le (by omega)] at hnone
      refine k false H4 ents4 e4 hm4 hmi4 ⟨(fun z => by cases z), fun h => ?_⟩
      rw [edrop] at h
      obtain ⟨q, qn, qle, h1, h2⟩ := h
      exact absurd ⟨h1, h2⟩ (hnone q ((hmem q).mpr ⟨qle.len, qn, qle⟩))
end
end K26
set_option Elab.async false
set_option linter.all false
set_option maxRecDepth 100000
set_option maxHeartbeats 4000000
namespace K26
open PySem PySem.Spec PyProof.Rows L2 RZ RT
/-! ## served_so -/
theorem dot_zero : ∀ (n : Nat) (S : List Int), dot (List.replicate n 0) S = 0
  | 0, _ => by simp [dot]
  | n + 1, [] => by simp [List.replicate_succ, dot]
  | n + 1, z :: S => by simp only [List.replicate_succ, dot, Int.zero_mul, Int.zero_add, dot_zero n S]
def spSo : Sp := fun vs H Q _ => ∃ (u v : V) (us : List Int) (t : Tr), vs = [u, v] ∧ At H u (dR us) ∧ Us us ∧ us.length ≤ 2 ∧ At H v (trD t) ∧ Good us t ∧ (ysT t []).length ≤ 8 ∧ wT us t ≤ 20 ∧
  ∀ (b : Bool) (H' : Hp), Same H H' → (b = true ↔ need us t = zer us) → Q (.bl b) H'
section
variable {P : Program} {w : World} {K : PySem.W.Frag} {mg : Str → Option Value} {base : Heap} {f fs : Addr} {fd fds : FuncData} {A : XA}
theorem ok_ws (B : Bi mg) (C_law_lefts : Cal P w K mg base CX0 2 "_law_lefts" ["_law_units_so", "_law_stock", "_law_order"] spLefts) (C_law_beside : Cal P w K mg base CX0 1 "_law_beside" ["_law_one", "_law_other"] spAdd)
    (C_law_parts : Cal P w K mg base CX0 1 "_law_parts" ["_law_row_here"] spParts) (C_law_without : Cal P w K mg base CX0 1 "_law_without" ["_law_row_here", "_law_order"] spSub)
    (F : FnP K "_law_way" (top 60) f fd) (hm : mg "_law_way" = some (.ref f)) (hk : PySem.W.keepIn K (.ref f) = true) (hb : Binds K fd ["_law_units_so", "_law_tree_so", "_law_path", "_law_sent", "_law_seen"] [])
    (G : FnP K "_law_shared" (top 61) fs fds) (gm : mg "_law_shared" = some (.ref fs)) (gk : PySem.W.keepIn K (.ref fs) = true) (gb : Binds K fds ["_law_units_so", "_law_tree_so", "_law_path", "_law_index", "_law_left", "_law_seen"] []) :
    ∀ N, FnOk P w K mg base CX0 (N + 3) f fd ["_law_units_so", "_law_tree_so", "_law_path", "_law_sent", "_law_seen"] (spWay P w N) ∧
      FnOk P w K mg base CX0 (N + 3) fs fds ["_law_units_so", "_law_tree_so", "_law_path", "_law_index", "_law_left", "_law_seen"] (spShared P w N)
  | 0 => ⟨ok0 F sc_law_way (fun vs H Q E h => by obtain ⟨_, _, _, _, _, _, _, _, _, _, _, rfl, _⟩ := h; rfl) (fun cdv A' outer s0 H vs Q E hr h => by
      obtain ⟨_, _, _, _, _, _, _, _, _, _, _, _, _, _, _, _, _, _, _, _, _, _, _, _, _, h, _⟩ := h
      exact absurd h (Nat.not_lt_zero _)),
    ok0 G sc_law_shared (fun vs H Q E h => by obtain ⟨_, _, _, _, _, _, _, _, _, _, _, _, _, _, rfl, _⟩ := h; rfl) (fun cdv A' outer s0 H vs Q E hr h => by
      obtain ⟨_, _, _, _, _, _, _, _, _, _, _, _, _, _, _, _, _, _, _, _, _, _, _, _, _, _, _, _, _, h, _⟩ := h
      exact absurd h (Nat.not_lt_zero _))⟩
  | N + 1 => by
    obtain ⟨i1, i2⟩ := ok_ws B C_law_lefts C_law_beside C_law_parts C_law_without F hm hk hb G gm gk gb N
    have C1 : Cal P w K mg base CX0 (N + 3) "_law_way" ["_law_units_so", "_law_tree_so", "_law_path", "_law_sent", "_law_seen"] (spWay P w N) := ⟨f, fd, i1, hm, hk, hb⟩
    have C2 : Cal P w K mg base CX0 (N + 3) "_law_shared" ["_law_units_so", "_law_tree_so", "_law_path", "_law_index", "_law_left", "_law_seen"] (spShared P w N) := ⟨fs, fds, i2, gm, gk, gb⟩
    exact ⟨ok_way B C_law_lefts C_law_beside C2 F, ok_shared B C_law_parts C_law_without C1 C2 G⟩
theorem sc_law_served_so : FnScope ["_law_units_so", "_law_tree_so"] ["_law_units_so", "_law_tree_so"] (defScope (top 62)) := ⟨rfl, rfl, rfl, by decide +kernel, rfl, by decide +kernel, by decide +kernel⟩
theorem ok_law_served_so (B : Bi mg) (C_law_way : Cal P w K mg base CX0 23 "_law_way" ["_law_units_so", "_law_tree_so", "_law_path", "_law_sent", "_law_seen"] (spWay P w 20)) (F : FnP K "_law_served_so" (top 62) f fd) :
    FnOk P w K mg base CX0 24 f fd ["_law_units_so", "_law_tree_so"] spSo := by
  refine ok0 F sc_law_served_so (fun vs H Q E h => by obtain ⟨_, _, _, _, rfl, _⟩ := h; rfl) (fun cdv A' outer s0 H vs Q E hr h => ?_)
  obtain ⟨u, v, us, t, rfl, hu, hU, hu2, hv, hg, hz, hw, k⟩ := h
  refine ⟨(tRet (tCall (spWay P w 20) [] E0 (tCons (tVar 0) (tCons (tVar 1) (tCons (tTup tNil) (tCons (tOp (rRepQ K) (tTup (tCons (tC (.int 0)) tNil)) (tOp (rI0 fun i j => .int (i + j)) (tCB (rLenQ K) (tCons (tVar 0) tNil)) (tC (.int 1)))) (tCons (tNdNew P w) tNil))))))),
    (pss_one (ps_ret (pe_cal C_law_way hr (by first | decide | omega) (by rfl) pass0 (pa_cons (pv 0) (pa_cons (pv 1) (pa_cons (pe_tup pa_nil) (pa_cons (pe_op op_repT1 (pe_tup (pa_cons pe_int pa_nil)) (pe_op op_add (pe_callB call_lenQ (by rfl) B.len (by decide +kernel) (pa_cons (pv 0) pa_nil)) pe_int)) (pa_cons pe_ndNew pa_nil)))))))), ?_⟩
  refine ⟨_, rfl, _, rfl, small_ (by simp), fun t1 ht1 => ?_⟩
  have n1 := same_new (o := .tup []) ht1
  refine ⟨small_ (by simp), fun t2 ht2 => ?_⟩
  have n2 := n1.trans (same_new (o := .tup [.int 0]) ht2)
  obtain ⟨pu, rfl, hpu⟩ := hu.of_row
  have fin : ∀ (x : V) (H1 : Hp), Same H H1 → At H1 (.ref t1) (dR []) → At H1 x (dR (zer us)) → ∀ d, H1 d = none → tCall (spWay P w 20) [] E0 (fun σ H Q => Q [.ref pu, v, .ref t1, x, .ref d] H) [some (.ref pu), some v] (upd H1 d (ndO P w d [])) Q := by
    intro x H1 e1 a1 ax d hd
    have n3 := same_new (o := ndO P w d []) hd
    refine ⟨.ref pu, v, .ref t1, x, d, us, t, t, [], zer us, [], rfl, hu.mono (e1.trans n3), hU, hu2, hz, hg, rfl, hv.mono (e1.trans n3), a1.mono n3, ax.mono n3, zer_row us, ?_, ⟨upd_same, by simp⟩, ⟨by simp, by simp⟩, by omega, fun b H' ents' fr _ _ hb => ?_⟩
    · have : tot us (zer us) = 0 := dot_zero _ _
      omega
    · refine k b H' (fun c o h => ?_) (hb.trans (le_zer hU.ps (need_row hg).1))
      have hcd : c ≠ d := ne_of_none (e1 _ _ h) hd
      exact fr _ _ hcd hcd (n3 _ _ (e1 _ _ h))
  refine ⟨_, rfl, pu, _, rfl, .inr (sqT (n2 _ _ hpu)), _, 1, rfl, rfl, t2, _, _, rfl, rfl, sqT upd_same, by simp, by simp; omega, by simp; omega, by simp, fun e => ?_, fun e m hm => ?_⟩
  · refine fun d hd => ?_
    refine fin (.ref t2) _ n2 ((At.row (l := []) upd_same).mono (same_new ht2)) (At.row ?_) d hd
    have : us.length = 0 := by simp at e; omega
    rw [upd_same, zer, this]
    rfl
  · refine fun d hd => ?_
    have n3 := same_new (o := .tup (List.replicate ((((us.map V.int).length : Nat) : Int) + 1).toNat [V.int 0]).flatten) hm
    refine fin (.ref m) _ (n2.trans n3) (((At.row (l := []) upd_same).mono (same_new ht2)).mono n3) (At.row ?_) d hd
    rw [upd_same, zer_flat, zer]
    congr 4
    simp
end
end K26
set_option Elab.async false
set_option linter.all false
set_option maxRecDepth 100000
set_option maxHeartbeats 4000000
namespace K26
open PySem PySem.Spec PyProof.Rows L2 RZ RT
/-! ## try: .. except X as n: .. except Y as n: .., one clause always takes it -/
/-- the clause's name goes behind the suite -/
def gone (i : Nat) (D : Ends) : Ends := { nx := fun τ G => D.nx (τ.set i none) G, rt := D.rt, bk := fun τ G => D.bk (τ.set i none) G, ct := fun τ G => D.ct (τ.set i none) G }
abbrev Clause := Value × (Addr → Value → Option Addr → TS)
def wMa (K : PySem.W.Frag) (i len : Nat) (D : Ends) : List Clause → WX
  | [] => fun _ _ _ _ => False
  | q :: l => fun cls dd τ G => ∃ b, PySem.W.exmOne K cls q.1 = some b ∧ (b = true → ∀ z, G z = none → τ.length = len → q.2 z cls dd (gone i D) (τ.set i (some (.ref z))) G) ∧ (b = false → wMa K i len D l cls dd τ G)
inductive HdA (X : Cx) (n : Str) : List ExceptHandler → List Clause → Prop
  | nil : HdA X n [] []
  | cons {x : Str} {c : Value} {ts : Addr → Value → Option Addr → TS} {st0 : Stmt} {sts : List Stmt} {q1 q2 : Pos} {hs : List ExceptHandler} {l : List Clause} (nm : Names X x c)
      (su : ∀ (z : Addr) (ob : Obj) (cls : Value) (dd : Option Addr) (pn : List (Addr × Obj)), Zc cls dd ob → (∃ vs, ob.data = .fields vs) → PSs (X.suite z ((z, ob) :: pn)) (st0 :: sts) (ts z cls dd)) (r : HdA X n hs l) :
      HdA X n (.ExceptHandler (some (.Name x q1)) (some n) (st0 :: sts) q2 :: hs) ((c, ts) :: l)
section
variable {X : Cx} {body : List Stmt} {h0 : ExceptHandler} {hs : List ExceptHandler} {l : List Clause} {pos : Pos} {tb : WX → TS} {n : Str} {i : Nat}
theorem ps_try_ma (st : X.stack = X.env :: X.outer) (fr : X.env.frame = some X.env.locals) (nd : X.N.Nodup) (hi : X.N[i]? = some n) (hn : X.env.kindOf n = some .local)
    (hb : ∀ (W : WX) (pn : List (Addr × Obj)) (xe : Value → Shared → Prop), Takes (X.tr pn xe) W → PassesOwn (model X.prog X.w) X.A X.env xe → PSs (X.tr pn xe) body (tb W))
    (hh : HdA X n (h0 :: hs) l) : PS X (.Try body (h0 :: hs) [] [] pos) (fun D τ G => tb (wMa X.K i X.N.length D l) D τ G) := by
  refine ⟨fun pins s τ G D I hw => ?_⟩
  have ok := I.ok
  have afr : X.A.frames = some (X.env :: X.outer) := by rw [ok.frames, st]
  refine wpAny_Try_except (wpAny_mono ((hb (wMa X.K i X.N.length D l) (X.pn ++ pins) (fun e s1 => wpAny (model X.prog X.w) X.A (noteFrame e X.env) (fun _ s2 => wpAny (model X.prog X.w) X.A (setFlight e none) (fun _ s3 =>
    wpAny (model X.prog X.w) X.A (handleBy e X.env (h0 :: hs)) (SP X pins D) X.xe s3) X.xe s2) X.xe s1) (fun u s' caught => ?_) PassesOwn.looking).run [] s τ G D (I.toTry _) hw) (fun fl s1 done => ?_) (fun _ _ z => z))
  · obtain ⟨z, B, sI, pins', τ', G', cls, dd, rfl, J', nb, up, sky, na, os, ag, w⟩ := caught
    have J : Inv X pins τ' G' sI := J'.ofTry ok
    show wpAny (model X.prog X.w) X.A (noteFrame (.ref z) X.env) _ _ _
    refine Sky.land Zc.steady afr fr (by rw [← st]; exact sky) fun k3 f3 up3 => ?_
    have J3 : Inv X pins τ' G' { s' with heap := k3 } := J.landed nb f3.1 (up.trans up3) os ag
    obtain ⟨ob3, vs3, at3, zc3, dat3⟩ := f3.there
    have away : z ∉ frs (X.env :: X.outer) := fun hm => by
      obtain ⟨_, o', e', hnf⟩ := f3.2.2.1.mem hm
      rw [at3] at e'; cases e'
      exact hnf _ dat3
    have offL : z ≠ X.env.locals := fun q => away (List.mem_filterMap.mpr ⟨X.env, List.mem_cons_self, by rw [fr, q]⟩)
    have offF : z ∉ X.fs := fun hm => by
      obtain ⟨e, he, q⟩ := List.mem_filterMap.mp hm
      exact away (List.mem_filterMap.mpr ⟨e, List.mem_cons_of_mem _ he, q⟩)
    have S3 := J3.suite at3 dat3 na offL offF
    have go : ∀ {hs' : List ExceptHandler} {l' : List Clause}, HdA X n hs' l' → wMa X.K i X.N.length D l' cls dd τ' G' → wpAny (model X.prog X.w) X.A (handleBy (.ref z) X.env hs') (SP X pins D) X.xe { s' with heap := k3 } := by
      intro hs' l' hk
      induction hk with
      | nil => exact fun w => w.elim
      | @cons x c ts st0 sts q1 q2 hs2 l2 nm su r ih =>
        intro w
        obtain ⟨b, isb, yes, no⟩ := w
        refine wpAny_handleBy_cons (codeAny_handlers_test ?_) (by intro q; cases q)
        have LT : PySem.W.Looks (model X.prog X.w) k3 (typeOf (.ref z)) cls := fun A1 Q1 E1 s4 k q => wpAny_typeOf_ref (k _ _ at3) (by rw [zc3.1]; exact q)
        have asks := PySem.W.exm_one (M := model X.prog X.w) (J3.kIn) LT isb
        have named : ∀ {Q E : Value → Shared → Prop}, Q c { s' with heap := k3 } → wpAny (model X.prog X.w) (X.A.mark (some (.ref z))) (eval (.Name x q1) X.env) Q E { s' with heap := k3 } := fun {Q E} q => by
          obtain ⟨g1, g2, m | ⟨m, v, nn⟩⟩ := nm
          · exact ld_glob (X := X.suite z ((z, ob3) :: (X.pn ++ pins))) S3 g1 m q g2
          · exact ld_blt (X := X.suite z ((z, ob3) :: (X.pn ++ pins))) S3 g1 m v q nn g2
        refine named (asks.here ?_)
        cases b with
        | false =>
          show wpAny _ X.A (handleBy (.ref z) X.env hs2) _ _ _
          exact ih (no rfl)
        | true =>
          refine codeAny_handlers_suite_as (HandSPX.lands_againZ f3 fun k4 f4 up4 => ?_)
          have J4 : Inv X pins τ' G' { s' with heap := k4 } := J.landed nb f4.1 ((up.trans up3).trans up4) os ag
          obtain ⟨ob4, vs4, at4, zc4, dat4⟩ := f4.there
          have S4 := J4.suite at4 dat4 na offL offF
          refine store_ok (X := X.suite z ((z, ob4) :: (X.pn ++ pins))) (v := .ref z) S4 nd hi (.inl hn) rfl (fun s5 S5 => ?_) (.inr hn)
          refine wpAny_mono ((su z ob4 cls dd (X.pn ++ pins) zc4 ⟨_, dat4⟩).run [] s5 _ G' _ S5 (yes rfl z na J.len)) (fun fl s6 ends => ?_) (fun _ _ q => q.elim)
          have clear : ∀ {τ6 : L2.St} {G6 : Hp} {Q : Shared → Prop}, Inv (X.suite z ((z, ob4) :: (X.pn ++ pins))) [] τ6 G6 s6 → (∀ s7, Inv X pins (τ6.set i none) G6 s7 → Q s7) →
              wpAny (model X.prog X.w) X.A (do bindName X.env n .none; unbindBehindTheSuite X.env n q2) (fun _ s7 => Q s7) X.xe s6 := fun S6 q => gone_ok (S6.unsuite ok) nd hi hn q
          cases fl with
          | next => obtain ⟨_, _, S6, q6⟩ := ends; exact clear S6 fun _ J7 => ⟨_, _, J7, q6⟩
          | brk => obtain ⟨_, _, S6, q6⟩ := ends; exact clear S6 fun _ J7 => ⟨_, _, J7, q6⟩
          | cont => obtain ⟨_, _, S6, q6⟩ := ends; exact clear S6 fun _ J7 => ⟨_, _, J7, q6⟩
          | ret u => obtain ⟨_, _, _, S6, r6, q6⟩ := ends; exact clear S6 fun _ J7 => ⟨_, _, _, J7, r6, q6⟩
    exact go hh w
  · cases fl with
    | next => obtain ⟨_, _, J', q⟩ := done; exact wpAny_execs_nil ⟨_, _, J'.ofTry ok, q⟩
    | brk => obtain ⟨_, _, J', q⟩ := done; exact ⟨_, _, J'.ofTry ok, q⟩
    | cont => obtain ⟨_, _, J', q⟩ := done; exact ⟨_, _, J'.ofTry ok, q⟩
    | ret u => obtain ⟨_, _, _, J', r, q⟩ := done; exact ⟨_, _, _, J'.ofTry ok, r, q⟩
end
end K26
set_option Elab.async false
set_option linter.all false
set_option maxRecDepth 100000
set_option maxHeartbeats 4000000
namespace K26
open PySem PySem.Spec PyProof.Rows L2 RZ RT
/-! ## isinstance(error_so, YardError) -/
theorem isi_yes {K : PySem.W.Frag} {x t c : Value} {G : Heap → Prop} (ty : ∀ (M : Model) (h : Heap), K.In h → G h → PySem.W.Looks M h (typeOf x) t) (ne : (t == c) = false) (e : PySem.W.kitCls K t c = some true) : Answers (fun s => K.In s.heap ∧ G s.heap) x c true := by
  intro dep tk prog w A R s hs
  obtain ⟨h0, g, d, tt, os⟩ := s
  obtain ⟨⟨kin, p⟩, hq⟩ := hs
  have LT := ty (model prog w) h0 kin p
  obtain ⟨isTy, isT, below⟩ := PySem.W.kit_cls (M := model prog w) kin e
  have LI : PySem.W.Looks (model prog w) h0 (isInstance x c) true := LT.andThen below
  unfold Builtin.«isinstance.nested»
  refine wpAny_bind (LT.at ?_)
  rw [ne, if_neg Bool.false_ne_true]
  refine wpAny_bind (isTy.at ?_)
  rw [if_pos (by decide)]
  k_delta "plainIsInstance"
  refine wpAny_bind (wpAny_bind (isT.at ?_))
  simp only [Bool.not_true, Bool.false_eq_true, if_false]
  refine wpAny_bind (LI.at ?_)
  first
    | exact wpAny_pure (wpAny_pure (hq tt))
    | (simp only [if_true]; first | exact wpAny_pure (wpAny_pure (hq tt)) | exact wpAny_pure (hq tt) | exact wpAny_bind (wpAny_pure (wpAny_pure (hq tt))))
def rIsY (K : PySem.W.Frag) (cls : Value) (z CY : Addr) : List V → Hp → VK → Prop := fun xs H Q => ∃ D, cls = .ref D ∧ xs = [.ref z, .ref CY] ∧ D ≠ CY ∧ PySem.W.kitCls K (.ref D) (.ref CY) = some true ∧ Q (.bl true) H
theorem call_isY {X : Cx} {z CY : Addr} {ob : Obj} {cls : Value} {dd : Option Addr} {pn : List (Addr × Obj)} (hz : Zc cls dd ob) : CallR (X.suite z ((z, ob) :: pn)) (.builtin "isinstance") (rIsY X.K cls z CY) := by
  intro pins s σ H xs us Q I r h
  obtain ⟨D, rfl, rfl, ne, e, q⟩ := h
  cases r with
  | cons r1 r =>
    cases r with
    | cons r2 r =>
      cases r
      cases r1
      cases r2
      obtain ⟨at_, _⟩ := I.pin (z, ob) (List.mem_append.mpr (.inl List.mem_cons_self))
      refine call_isinstance (S := fun _ R s => (X.K.In s.heap ∧ s.heap.get? z = some ob) ∧ ∀ tk, R (.ok (.ret (.bool true))) { s with toks := tk })
        (fun prog w A R s hs => isinstance_outer (isi_yes (K := X.K) (G := fun h => h.get? z = some ob) (fun M h _ g A Q E s k q => wpAny_typeOf_ref (k _ _ g) (by rw [hz.1]; exact q)) ?_ e 0 _ prog w A R s hs) (fun z => nomatch z)) ⟨⟨I.kIn, at_⟩, fun tk => ⟨.bl true, H, I.kept (t' := tk) fun _ _ z => z, rfl, q⟩⟩
      exact beq_eq_false_iff_ne.mpr fun z => ne (Value.ref.inj z)
/-! ## heard -/
/-- what the top says of the classes, for the clauses -/
structure Hd (K : PySem.W.Frag) (mg : Str → Option Value) (A : XA) (CY : Addr) : Prop where
  gY : mg "YardError" = some (.ref CY)
  g1 : mg "BadUnits" = some (.ref A.bu)
  g2 : mg "BadTree" = some (.ref A.bt)
  g3 : mg "BadIndex" = some (.ref A.bi)
  g4 : mg "TooGreat" = some (.ref A.tg)
  g5 : mg "NoRow" = some (.ref A.nr)
  x1 : XfC K A.bu ∧ PySem.W.findIn K (.ref A.bu) "value" = some none
  x2 : XfC K A.bt ∧ PySem.W.findIn K (.ref A.bt) "path" = some none
  x3 : XfC K A.bi ∧ PySem.W.findIn K (.ref A.bi) "value" = some none
  x4 : XfC K A.tg ∧ PySem.W.findIn K (.ref A.tg) "most" = some none
  y1 : A.bu ≠ CY ∧ PySem.W.kitCls K (.ref A.bu) (.ref CY) = some true
  y2 : A.bt ≠ CY ∧ PySem.W.kitCls K (.ref A.bt) (.ref CY) = some true
  y3 : A.bi ≠ CY ∧ PySem.W.kitCls K (.ref A.bi) (.ref CY) = some true
  y4 : A.tg ≠ CY ∧ PySem.W.kitCls K (.ref A.tg) (.ref CY) = some true
  y5 : A.nr ≠ CY ∧ PySem.W.kitCls K (.ref A.nr) (.ref CY) = some true
  m11 : PySem.W.exmOne K (.ref A.bu) (.ref A.bu) = some true
  m21 : PySem.W.exmOne K (.ref A.bt) (.ref A.bu) = some false
  m22 : PySem.W.exmOne K (.ref A.bt) (.ref A.bt) = some true
  m31 : PySem.W.exmOne K (.ref A.bi) (.ref A.bu) = some false
  m32 : PySem.W.exmOne K (.ref A.bi) (.ref A.bt) = some false
  m33 : PySem.W.exmOne K (.ref A.bi) (.ref A.bi) = some true
  m41 : PySem.W.exmOne K (.ref A.tg) (.ref A.bu) = some false
  m42 : PySem.W.exmOne K (.ref A.tg) (.ref A.bt) = some false
  m43 : PySem.W.exmOne K (.ref A.tg) (.ref A.bi) = some false
  m44 : PySem.W.exmOne K (.ref A.tg) (.ref A.tg) = some true
  m51 : PySem.W.exmOne K (.ref A.nr) (.ref A.bu) = some false
  m52 : PySem.W.exmOne K (.ref A.nr) (.ref A.bt) = some false
  m53 : PySem.W.exmOne K (.ref A.nr) (.ref A.bi) = some false
  m54 : PySem.W.exmOne K (.ref A.nr) (.ref A.tg) = some false
  m55 : PySem.W.exmOne K (.ref A.nr) (.ref A.nr) = some true
/-- a clause's tuple -/
def Told (Q : VK) (H : Hp) (xs : List V) : Prop := ∀ p, H p = none → Q (.ref p) (upd H p (.tup xs))
/-- an exception with a field, told -/
def Tf (C : Addr) (g w : Str) (Q : VK) : XK := fun cls dd H => cls = .ref C ∧ ∃ d v, dd = some d ∧ H d = some (.xd [(g, v)]) ∧ Told Q H [.str w, v, .bl true]
/-- what is made of what comes out of the call -/
def Eh (A : XA) (Q : VK) : XK := fun cls dd H => Tf A.bu "value" "units" Q cls dd H ∨ Tf A.bt "path" "tree" Q cls dd H ∨ Tf A.bi "value" "index" Q cls dd H ∨ Tf A.tg "most" "great" Q cls dd H ∨ (cls = .ref A.nr ∧ Told Q H [.str "none", .bl true])
def TTh (A : XA) : (XK → Hp → VK → Prop) → Hp → VK → Prop := fun tl H Q => tl (Eh A Q) H fun v H' => ([V.str "is", v] : List V).length ≤ sizeLine ∧ ∀ p, H' p = none → ∃ x, some (some (V.ref p)) = some (some x) ∧ Q x (upd H' p (.tup [.str "is", v]))
theorem three {σ : L2.St} (h : σ.length = 3) : ∃ a b c, σ = [a, b, c] := by
  match σ, h with
  | [a, b, c], _ => exact ⟨_, _, _, rfl⟩
theorem lookup_one {g : Str} {v : V} : [(g, v)].lookup g = some v := by simp [List.lookup]
theorem sc_heard : FnScope ["_law_call", "_law_told", "error_so"] ["_law_call"] (defScope (top 64)) := ⟨rfl, rfl, rfl, by decide +kernel, rfl, by decide +kernel, by decide +kernel⟩
theorem heard_gives {X : Cx} {A : XA} {CY g : Addr} {cdg : Value} {q : Str} (B : Bi X.mg) (D : Hd X.K X.mg A CY) : LamX.GivesTo X ["_law_call", "_law_told", "error_so"] "_law_heard" (defScope (top 64)) g cdg (defBody (top 64)) "_law_call" q (TTh A) := by
  intro f c' s H Q tl act hc h
  refine ⟨_, pss_cons (ps_set (i := 1) sc_heard.nd rfl (Or.inl rfl) pe_non) (pss_cons (ps_try_ma (X := (cxOf C8.CX0 X.prog X.w X.K X.mg X.base ["_law_call", "_law_told", "error_so"] "_law_heard" (defScope (top 64)) g cdg X.A X.stack s H C8.E0).nox) (i := 2) (n := "error_so")
    (tb := fun W Dn τ G => ∃ Ech : XK, (∀ cls d σ' H', Ech cls d H' → W cls d σ' H') ∧ τ[0]? = some (some (.ref f)) ∧ G c' = some (LamX.CodeO c' q) ∧ tl Ech G fun v G' => ([V.str "is", v] : List V).length ≤ sizeLine ∧ ∀ p, G' p = none → Dn.nx (τ.set 1 (some (.ref p))) (upd G' p (.tup [.str "is", v])))
    rfl rfl sc_heard.nd rfl rfl (fun W pn xe tk _ => ?_)
    (.cons ⟨rfl, rfl, .inl D.g1⟩ (fun z ob cls dd pn hz hf => pss_one (ps_set (i := 1) sc_heard.nd rfl (Or.inl rfl) (pe_tup (pa_cons pe_str (pa_cons (pe_xf D.x1.1 D.x1.2 hz hf (pv 2)) (pa_cons (pe_callB (call_isY (CY := CY) hz) (by rfl) B.isinstance (by decide +kernel) (pa_cons (pv 2) (pa_cons (pe_glob (v := .ref CY) rfl D.gY rfl) pa_nil))) pa_nil))))))
      (.cons ⟨rfl, rfl, .inl D.g2⟩ (fun z ob cls dd pn hz hf => pss_one (ps_set (i := 1) sc_heard.nd rfl (Or.inl rfl) (pe_tup (pa_cons pe_str (pa_cons (pe_xf D.x2.1 D.x2.2 hz hf (pv 2)) (pa_cons (pe_callB (call_isY (CY := CY) hz) (by rfl) B.isinstance (by decide +kernel) (pa_cons (pv 2) (pa_cons (pe_glob (v := .ref CY) rfl D.gY rfl) pa_nil))) pa_nil))))))
      (.cons ⟨rfl, rfl, .inl D.g3⟩ (fun z ob cls dd pn hz hf => pss_one (ps_set (i := 1) sc_heard.nd rfl (Or.inl rfl) (pe_tup (pa_cons pe_str (pa_cons (pe_xf D.x3.1 D.x3.2 hz hf (pv 2)) (pa_cons (pe_callB (call_isY (CY := CY) hz) (by rfl) B.isinstance (by decide +kernel) (pa_cons (pv 2) (pa_cons (pe_glob (v := .ref CY) rfl D.gY rfl) pa_nil))) pa_nil))))))
      (.cons ⟨rfl, rfl, .inl D.g4⟩ (fun z ob cls dd pn hz hf => pss_one (ps_set (i := 1) sc_heard.nd rfl (Or.inl rfl) (pe_tup (pa_cons pe_str (pa_cons (pe_xf D.x4.1 D.x4.2 hz hf (pv 2)) (pa_cons (pe_callB (call_isY (CY := CY) hz) (by rfl) B.isinstance (by decide +kernel) (pa_cons (pv 2) (pa_cons (pe_glob (v := .ref CY) rfl D.gY rfl) pa_nil))) pa_nil))))))
      (.cons ⟨rfl, rfl, .inl D.g5⟩ (fun z ob cls dd pn hz hf => pss_one (ps_set (i := 1) sc_heard.nd rfl (Or.inl rfl) (pe_tup (pa_cons pe_str (pa_cons (pe_callB (call_isY (CY := CY) hz) (by rfl) B.isinstance (by decide +kernel) (pa_cons (pv 2) (pa_cons (pe_glob (v := .ref CY) rfl D.gY rfl) pa_nil))) pa_nil)))))
      .nil))))))
    (pss_one (ps_ret (pv 1)))), ?_⟩
  · refine ⟨fun pins s' σ H' Dn I h' => ?_⟩
    obtain ⟨Ech, hW, h1, h2, h3⟩ := h'
    refine (pss_one (ps_set (i := 1) sc_heard.nd rfl (Or.inl rfl) (pe_tup (pa_cons pe_str (pa_cons (act W pn xe Ech _ _ tk hW) pa_nil))))).run pins s' σ H' Dn I ?_
    exact ⟨h1, h2, h3⟩
  · refine ⟨Eh A Q, ?_, rfl, hc, h⟩
    rintro cls d σ' H' (⟨rfl, e, v, rfl, he, k⟩ | ⟨rfl, e, v, rfl, he, k⟩ | ⟨rfl, e, v, rfl, he, k⟩ | ⟨rfl, e, v, rfl, he, k⟩ | ⟨rfl, k⟩)
    · refine ⟨true, D.m11, fun _ z hz hl => ?_, fun q => by cases q⟩
      obtain ⟨x0, x1, x2, rfl⟩ := three hl
      exact ⟨_, rfl, rfl, rfl, e, _, v, rfl, he, lookup_one, _, rfl, _, rfl, rfl, D.y1.1, D.y1.2, small_ (by simp), fun p hp => ⟨_, rfl, k p hp⟩⟩
    · refine ⟨false, D.m21, (fun q => by cases q), fun _ => ⟨true, D.m22, fun _ z hz hl => ?_, fun q => by cases q⟩⟩
      obtain ⟨x0, x1, x2, rfl⟩ := three hl
      exact ⟨_, rfl, rfl, rfl, e, _, v, rfl, he, lookup_one, _, rfl, _, rfl, rfl, D.y2.1, D.y2.2, small_ (by simp), fun p hp => ⟨_, rfl, k p hp⟩⟩
    · refine ⟨false, D.m31, (fun q => by cases q), fun _ => ⟨false, D.m32, (fun q => by cases q), fun _ => ⟨true, D.m33, fun _ z hz hl => ?_, fun q => by cases q⟩⟩⟩
      obtain ⟨x0, x1, x2, rfl⟩ := three hl
      exact ⟨_, rfl, rfl, rfl, e, _, v, rfl, he, lookup_one, _, rfl, _, rfl, rfl, D.y3.1, D.y3.2, small_ (by simp), fun p hp => ⟨_, rfl, k p hp⟩⟩
    · refine ⟨false, D.m41, (fun q => by cases q), fun _ => ⟨false, D.m42, (fun q => by cases q), fun _ => ⟨false, D.m43, (fun q => by cases q), fun _ => ⟨true, D.m44, fun _ z hz hl => ?_, fun q => by cases q⟩⟩⟩⟩
      obtain ⟨x0, x1, x2, rfl⟩ := three hl
      exact ⟨_, rfl, rfl, rfl, e, _, v, rfl, he, lookup_one, _, rfl, _, rfl, rfl, D.y4.1, D.y4.2, small_ (by simp), fun p hp => ⟨_, rfl, k p hp⟩⟩
    · refine ⟨false, D.m51, (fun q => by cases q), fun _ => ⟨false, D.m52, (fun q => by cases q), fun _ => ⟨false, D.m53, (fun q => by cases q), fun _ => ⟨false, D.m54, (fun q => by cases q), fun _ => ⟨true, D.m55, fun _ z hz hl => ?_, fun q => by cases q⟩⟩⟩⟩⟩
      obtain ⟨x0, x1, x2, rfl⟩ := three hl
      exact ⟨_, rfl, _, rfl, rfl, D.y5.1, D.y5.2, small_ (by simp), fun p hp => ⟨_, rfl, k p hp⟩⟩
end K26
set_option Elab.async false
set_option linter.all false
set_option maxRecDepth 100000
set_option maxHeartbeats 4000000
namespace K26
open PySem PySem.Spec PyProof.Rows L2 RZ RT
/-! ## defs that are called where no repr is under way -/
structure FnOkG (P : Program) (w : World) (K : PySem.W.Frag) (mg : Str → Option Value) (base : Heap) (k : Nat) (f : Addr) (fd : FuncData) (ps : List Str) (sp : Sp) : Prop where
  len : ∀ vs H Q E, sp vs H Q E → vs.length = ps.length
  run : ∀ (A : Around) (outer : List Env) (s : Shared) (H : Hp) (args : Args) (us : List Value) (vs : List V) (Q : VK) (E : XK), Room k A → A.guards = some [] → Env0 P w K mg base A outer s H → BindsTo s fd args (ps.zip us) → Vals vs us → sp vs H Q E →
    codeAny (model P w) A (.call (.ref f) args) (CR CX0 outer P w H s Q E) s
structure CalG (P : Program) (w : World) (K : PySem.W.Frag) (mg : Str → Option Value) (base : Heap) (k : Nat) (x : Str) (ps : List Str) (sp : Sp) : Prop where
  ex : ∃ f fd, FnOkG P w K mg base k f fd ps sp ∧ mg x = some (.ref f) ∧ PySem.W.keepIn K (.ref f) = true ∧ Binds K fd ps []
section
variable {P : Program} {w : World} {K : PySem.W.Frag} {mg : Str → Option Value} {base : Heap} {f : Addr} {fd : FuncData}
theorem okG {x : Str} {st : Stmt} {N ps : List Str} {k : Nat} {sp : Sp} (F : FnP K x st f fd) (S : FnScope N ps (defScope st)) (len : ∀ vs H Q E, sp vs H Q E → vs.length = ps.length)
    (hbody : ∀ (cdv : Value) (A : Around) (outer : List Env) (s : Shared) (H : Hp) (vs : List V) (Q : VK) (E : XK), fd.code = cdv → Room k (A.deeper (envOfC x (defScope st) s.heap.objs.size f cdv)) → A.guards = some [] → sp vs H Q E →
      ∃ t, PSs (cxOf CX0 P w K mg base N x (defScope st) f cdv A outer s H E).nox (defBody st) t ∧ t { nx := fun _ H' => Q .non H', rt := Q } (start N vs) H) : FnOkG P w K mg base (k + 1) f fd ps sp := by
  obtain ⟨oc, od, dV, kV, doc, pm, an, cdv, ct, osl, rfl, lk, hcd, _, _⟩ := F.ex
  refine ⟨len, fun A outer s H args us vs Q E hr hG e0 hb r hsp => LamX.run_ofS lk hcd S hr e0 hb r (len _ _ _ _ hsp) fun hr' => ?_⟩
  obtain ⟨t, h, q⟩ := hbody cdv A outer s H vs Q E rfl hr' hG hsp
  exact ⟨t, h.nox, q⟩
/-- a def whose code object is asked for -/
theorem okC {x : Str} {st : Stmt} {N ps : List Str} {k : Nat} {sp : Sp} (F : FnP K x st f fd) (S : FnScope N ps (defScope st)) (len : ∀ vs H Q E, sp vs H Q E → vs.length = ps.length)
    (hbody : ∀ (cdv : Value) (A : Around) (outer : List Env) (s : Shared) (H : Hp) (vs : List V) (Q : VK) (E : XK), fd.code = cdv → Room k (A.deeper (envOfC x (defScope st) s.heap.objs.size f cdv)) → sp vs H Q E →
      ∃ t, PSs (cxOf CX0 P w K mg base N x (defScope st) f cdv A outer s H E).nox (defBody st) t ∧ t { nx := fun _ H' => Q .non H', rt := Q } (start N vs) H) : FnOk P w K mg base CX0 (k + 1) f fd ps sp := by
  obtain ⟨oc, od, dV, kV, doc, pm, an, cdv, ct, osl, rfl, lk, hcd, _, _⟩ := F.ex
  refine fn_of lk hcd S len fun A outer s H vs Q E hr hsp => ?_
  obtain ⟨t, h, q⟩ := hbody cdv A outer s H vs Q E rfl hr hsp
  exact ⟨t, h.nox, q⟩
end
section
variable {X : Cx} {k j : Nat} {x : Str} {ps : List Str} {sp : Sp} {p pos : Pos} {e : Expr} {es : List Expr} {t : TA}
theorem run_G {pins : List (Addr × Obj)} {σ : L2.St} {H : Hp} {s : Shared} {Q : VK} {us : List Value} {vs : List V} {f : Addr} {fd : FuncData} (F : FnOkG X.prog X.w X.K X.mg X.base k f fd ps sp) (hr : Room k X.A) (hG : X.A.guards = some []) (hb : Binds X.K fd ps [])
    (I : Inv X pins σ H s) (r : Vals vs us) (h : sp (vs ++ []) H Q E0) : wpAny (model X.prog X.w) X.A (call (.ref f) us) (EP X pins σ Q) X.xe s := by
  rw [List.append_nil] at h
  have hl : us.length = ps.length := by rw [← r.length]; exact F.len _ _ _ _ h
  have hbb := hb s us I.kIn (by rw [List.append_nil]; exact hl)
  rw [List.append_nil] at hbb
  refine wpAny_call (codeAny_mono (F.run X.A X.stack s H ⟨us, []⟩ us vs Q E0 hr hG I.env0 hbb r h) fun r s' hq => ?_)
  cases r with
  | error e => exact (hq : False).elim
  | ok fl =>
    cases fl with
    | ret u => exact I.after hq
    | _ => exact (hq : False).elim
theorem pe_calG (C : CalG X.prog X.w X.K X.mg X.base k x ps sp) (hr : Room j X.A) (hk : k ≤ j) (hG : X.A.guards = some []) (hg : Gl X x) (ha : PA X (e :: es) t)
    (hdb : (x == ("__debug__" : Str)) = false := by decide) (he : starEach (e :: es) X.env = (false, eval e X.env) :: starEach es X.env := by rfl) (hpl : (backTo pos (starEach es X.env)).any (·.1) = false := by rfl) :
    PE X (.Call (.Name x p) (e :: es) [] pos) (tCall sp [] E0 t) := by
  obtain ⟨f, fd, F, hm, hkp, hb⟩ := C.ex
  refine ⟨fun pins s σ H Q I h => wpAny_Call_Name_kw (ld_glob I hg hm ?_ hdb)⟩
  exact PySem.W.callWith_K (h₀ := X.base) I.ok.mod.kin hkp (thn (ha.run pos pins s σ H _ I h) fun us s1 ⟨vs, H1, I1, r, q⟩ => ⟨I1.kIn, run_G F (hr.mono hk) hG hb I1 r q⟩) he hpl
theorem pe_calG0 (C : CalG X.prog X.w X.K X.mg X.base k x ps sp) (hr : Room j X.A) (hk : k ≤ j) (hG : X.A.guards = some []) (hg : Gl X x)
    (hdb : (x == ("__debug__" : Str)) = false := by decide) : PE X (.Call (.Name x p) [] [] pos) (tCall sp [] E0 tNil) := by
  obtain ⟨f, fd, F, hm, hkp, hb⟩ := C.ex
  exact ⟨fun pins s σ H Q I h => wpAny_Call_Name_kw (ld_glob I hg hm (PySem.W.callWith_K0 I.kIn hkp (run_G (us := []) F (hr.mono hk) hG hb I .nil h)) hdb)⟩
end
/-! ## repr -/
def rReprB : List V → Hp → VK → Prop := fun vs H Q => ∃ b, vs = [.bl b] ∧ Q (.str (if b then "True" else "False")) H
/-- repr of a list or a tuple -/
def rReprD : List V → Hp → VK → Prop := fun vs H Q => ∃ a d, vs = [.ref a] ∧ At H (.ref a) d ∧ d.showable = true ∧ d.hasDict = false ∧ d.depth ≤ 60 ∧ d.shown.length ≤ 100000 ∧ Q (.str d.shown) H
section
variable {X : Cx}
theorem call_reprB : CallR X (.builtin "repr") rReprB := by
  intro pins s σ H vs us Q I r h
  obtain ⟨b, rfl, q⟩ := h
  obtain ⟨u, rfl, ru⟩ := vals1 r
  obtain rfl : u = Value.bool b := ru
  exact PySem.P.repr_of_bool ⟨.str _, H, I.tok _, ⟨_, rfl⟩, q⟩
theorem call_reprD (hG : X.A.guards = some []) (hu : X.A.units + 65 < cLine) : CallR X (.builtin "repr") rReprD := by
  intro pins s σ H vs us Q I r h
  obtain ⟨a, d, rfl, ha, hs, hd, hdp, hz, q⟩ := h
  obtain ⟨u, rfl, ru⟩ := vals1 r
  obtain rfl : u = Value.ref a := ru
  obtain ⟨as, rd⟩ := Dp.reads I d _ _ ha.dp rfl
  exact repr_of_reads' rd hs (fun z => by rw [hd] at z; cases z) hG (by omega) (fun _ _ e => e) (fun h' u tk k => ⟨.str _, H, I.kept (t' := tk) k, ⟨_, rfl⟩, q⟩) (small_ hz)
end
def spLikeB : Sp := fun vs H Q _ => ∃ a b : Bool, vs = [.bl a, .bl b] ∧ Q (.bl (a == b)) H
def spLikeD : Sp := fun vs H Q _ => ∃ (a b : Addr) (d e : PyData), vs = [.ref a, .ref b] ∧ At H (.ref a) d ∧ At H (.ref b) e ∧ d.showable = true ∧ d.hasDict = false ∧ d.depth ≤ 60 ∧ d.shown.length ≤ 100000 ∧ e.showable = true ∧ e.hasDict = false ∧ e.depth ≤ 60 ∧ e.shown.length ≤ 100000 ∧
  Q (.bl (decide (d.shown = e.shown))) H
section
variable {P : Program} {w : World} {K : PySem.W.Frag} {mg : Str → Option Value} {base : Heap} {f : Addr} {fd : FuncData}
theorem sc_law_like : FnScope ["_law_got", "_law_due"] ["_law_got", "_law_due"] (defScope (top 63)) := ⟨rfl, rfl, rfl, by decide +kernel, rfl, by decide +kernel, by decide +kernel⟩
theorem ok_law_likeB (B : Bi mg) (F : FnP K "_law_like" (top 63) f fd) : FnOk P w K mg base CX0 1 f fd ["_law_got", "_law_due"] spLikeB := by
  refine ok0 F sc_law_like (fun vs H Q E h => by obtain ⟨_, _, rfl, _⟩ := h; rfl) (fun cdv A outer s H vs Q E hr h => ?_)
  obtain ⟨a, b, rfl, k⟩ := h
  refine ⟨(tRet (tOp rEq (tCB rReprB (tCons (tVar 0) tNil)) (tCB rReprB (tCons (tVar 1) tNil)))), pss_one (ps_ret (pe_cmpR op_eq (pe_callB call_reprB (by rfl) B.repr (by decide +kernel) (pa_cons (pv 0) pa_nil)) (pe_callB call_reprB (by rfl) B.repr (by decide +kernel) (pa_cons (pv 1) pa_nil)) (nomark _))), ?_⟩
  refine ⟨_, rfl, a, rfl, _, rfl, b, rfl, rfl, ?_⟩
  have e : decide (V.str (if a then "True" else "False") = V.str (if b then "True" else "False")) = (a == b) := by cases a <;> cases b <;> decide +kernel
  rw [e]
  exact k
theorem ok_law_likeD (B : Bi mg) (F : FnP K "_law_like" (top 63) f fd) : FnOkG P w K mg base 1 f fd ["_law_got", "_law_due"] spLikeD := by
  refine okG F sc_law_like (fun vs H Q E h => by obtain ⟨_, _, _, _, rfl, _⟩ := h; rfl) (fun cdv A outer s H vs Q E _ hr hG h => ?_)
  obtain ⟨a, b, d, e, rfl, ha, hb, h1, h2, h3, h4, h5, h6, h7, h8, k⟩ := h
  refine ⟨(tRet (tOp rEq (tCB rReprD (tCons (tVar 0) tNil)) (tCB rReprD (tCons (tVar 1) tNil)))), pss_one (ps_ret (pe_cmpR op_eq (pe_callB (call_reprD hG (hu65_of hr)) (by rfl) B.repr (by decide +kernel) (pa_cons (pv 0) pa_nil)) (pe_callB (call_reprD hG (hu65_of hr)) (by rfl) B.repr (by decide +kernel) (pa_cons (pv 1) pa_nil)) (nomark _))), ?_⟩
  refine ⟨_, rfl, a, d, rfl, ha, h1, h2, h3, h4, _, rfl, b, e, rfl, hb, h5, h6, h7, h8, rfl, ?_⟩
  have e2 : decide (V.str d.shown = V.str e.shown) = decide (d.shown = e.shown) := by
    by_cases h : d.shown = e.shown
    · rw [decide_eq_true h, h, decide_eq_true rfl]
    · rw [decide_eq_false h, decide_eq_false (fun z => h (by injection z))]
  rw [e2]
  exact k
end
end K26
set_option Elab.async false
set_option linter.all false
set_option maxRecDepth 100000
set_option maxHeartbeats 4000000
namespace K26
open PySem PySem.Spec PyProof.Rows L2 RZ RT
/-! ## what right leans on -/
theorem le_add_left {a b : List Int} (h : a.length = b.length) (hn : Nn b) : Le a (add b a) := by
  rw [add_comm]
  exact le_add_right h hn
mutual
theorem need_sum {us : List Int} (hU : Us us) : ∀ t : Tr, Good us t → Lit us t → ∃ A, Row us A ∧ tot us A ≤ 3 * ((ysT t []).length : Int) ∧ Le (st us (need us t)) (st us A)
  | .nd s a un, g, l => by
    simp only [Good] at g
    simp only [Lit] at l
    obtain ⟨A, r, h1, h2⟩ := asked_sum hU un a g.2.2 l.2.2 g.2.1
    refine ⟨A, r, ?_, ?_⟩
    · rw [ysT, List.length_cons]
      push_cast
      omega
    · simp only [need]
      have ra := asked_row g.2.2 g.2.1
      rw [lk_le hU.ps ra.1 g.1.1 r]
      exact h2.trans (st_mono hU.ps (le_add_left (by rw [r.1, g.1.1]) g.1.2) r.1)
theorem asked_sum {us : List Int} (hU : Us us) : ∀ (un : List Tr) (a : List Int), GoodAll us un → LitAll us un → Row us a → ∃ A, Row us A ∧ tot us A ≤ tot us a + 3 * ((yss un [] 0).length : Int) ∧ Le (st us (asked us a un)) (st us A)
  | [], a, _, _, r => ⟨a, r, by simp [yss], by simp only [asked]; exact Le.refl _⟩
  | c :: cs, a, g, l, r => by
    simp only [GoodAll] at g
    simp only [LitAll] at l
    obtain ⟨A1, r1, h1, h2⟩ := need_sum hU c g.1 l.1
    obtain ⟨A2, r2, h3, h4⟩ := asked_sum hU cs a g.2 l.2 r
    refine ⟨add A1 A2, r1.add r2, ?_, ?_⟩
    · have e : tot us (add A1 A2) = tot us A1 + tot us A2 := dot_add (by rw [r1.1, r2.1])
      have e2 := len_ysT c ([] ++ [2, ((0 : Nat) : Int)]) []
      have e3 := len_yss cs [] [] (0 + 1) 0
      rw [yss, List.length_append, e2, e3, e]
      push_cast
      omega
    · simp only [asked]
      have rn := (need_row g.1).1
      have rs := asked_row g.2 r
      rw [add_comm a, asked_acc, st_add (by rw [rn.1, rs.1]), st_add (by rw [r1.1, r2.1])]
      exact h2.add h4
end
def farR (us : List Int) : List Int := List.replicate (us.length + 1) (10 ^ 59)
theorem le_rep {M : Int} : ∀ {A : List Int}, (∀ x ∈ A, x ≤ M) → Le A (List.replicate A.length M)
  | [], _ => trivial
  | x :: A, h => ⟨h x List.mem_cons_self, le_rep fun y hy => h y (List.mem_cons_of_mem _ hy)⟩
theorem nn_rep {M : Int} (h : 0 ≤ M) : ∀ n, Nn (List.replicate n M)
  | 0 => trivial
  | n + 1 => ⟨h, nn_rep h n⟩
theorem far_row (us : List Int) : Row us (farR us) := ⟨by simp [farR], nn_rep (by decide) _⟩
/-- the far row is enough -/
theorem far_ok {us : List Int} (hU : Us us) {t : Tr} (g : Good us t) (l : Lit us t) (hz : (ysT t []).length ≤ 8) {r : List Nat} {x : List Int} (h : least us r t = some x) : Le (st us x) (st us (farR us)) := by
  unfold least at h
  split at h
  · rename_i s a un row hs hh
    cases h
    have gs := good_sub g hs
    have ls : Lit us (.nd s a un) := lit_sub l hs
    simp only [Good] at gs
    simp only [Lit] at ls
    have hrow := hd_row hU.ps g (zer_row us) hh
    obtain ⟨A, rA, h1, h2⟩ := asked_sum hU un a gs.2.2 ls.2.2 gs.2.1
    have hl := len_sub hs
    rw [ysT, List.length_cons] at hl
    have ra := asked_row gs.2.2 gs.2.1
    rw [lk_le hU.ps ra.1 (gs.1.add hrow).1 (far_row us)]
    have hA : Le A (farR us) := by
      have hb := row_bd hU rA
      have : Le A (List.replicate A.length (10 ^ 59)) := le_rep fun y hy => by
        have h3 := (hb.2 y hy).2
        have : tot us A ≤ 100 := by omega
        exact Int.le_trans h3 (Int.le_trans this (by decide))
      rw [rA.1] at this
      exact this
    exact h2.trans ((st_mono hU.ps hA rA.1).trans (st_mono hU.ps (le_add_left (by rw [(far_row us).1, (gs.1.add hrow).1]) (gs.1.add hrow).2) (far_row us).1))
  · cases h
where
  lit_sub {us : List Int} : ∀ {r : List Nat} {t s : Tr}, Lit us t → sub? r t = some s → Lit us s
    | [], t, s, g, h => by
      simp only [sub?, Option.some.injEq] at h
      subst h
      exact g
    | j :: r, .nd s a un, t', g, h => by
      simp only [sub?] at h
      split at h
      · cases h
      · rename_i c hc
        simp only [Lit] at g
        exact lit_sub (lit_get g.2.2 hc) h
  lit_get {us : List Int} : ∀ {cs : List Tr} {i : Nat} {c : Tr}, LitAll us cs → cs[i]? = some c → Lit us c
    | [], _, _, _, h => by simp at h
    | c :: cs, 0, d, hg, h => by
      simp only [List.getElem?_cons_zero, Option.some.injEq] at h
      subst h
      simp only [LitAll] at hg
      exact hg.1
    | c :: cs, i + 1, d, hg, h => by
      simp only [List.getElem?_cons_succ] at h
      simp only [LitAll] at hg
      exact lit_get hg.2 h
/-! ### trees that are taken -/
mutual
/-- the numbers of a tree are from 0 to M -/
def Fit (M : Int) : Tr → Prop
  | .nd s a un => (∀ x ∈ s, 0 ≤ x ∧ x ≤ M) ∧ (∀ x ∈ a, 0 ≤ x ∧ x ≤ M) ∧ FitAll M un
def FitAll (M : Int) : List Tr → Prop
  | [] => True
  | c :: cs => Fit M c ∧ FitAll M cs
end
theorem rowP_of {n : Nat} {r : List Int} (h : r.length = n + 1) (k : ∀ x ∈ r, 0 ≤ x ∧ x ≤ 10 ^ 60) : rowP n (dR r) = true := by
  show (decide ((r.map PyData.int).length = n + 1) && (r.map PyData.int).all (fromP 0 (10 ^ 60))) = true
  rw [List.length_map, decide_eq_true h, Bool.true_and, List.all_map, List.all_eq_true]
  intro x hx
  have := k x hx
  show (decide ((0 : Int) ≤ x) && decide (x ≤ 10 ^ 60)) = true
  rw [decide_eq_true this.1, decide_eq_true this.2]
  rfl
def pairP (q : List Int × Tr) : List Int × PyData := (q.1, trD q.2)
theorem kids_pair {p : List Int} : ∀ {i : Nat} {un : List Tr}, kidsP p i (trDs un) = (kidsT p i un).map pairP
  | _, [] => rfl
  | i, c :: cs => by
    simp only [trDs, kidsP, kidsT, List.map_cons, kids_pair]
    rfl
theorem kidsT_in {p : List Int} : ∀ {i : Nat} {un : List Tr} {q : List Int × Tr}, q ∈ kidsT p i un → q.2 ∈ un
  | _, [], _, h => by cases h
  | i, c :: cs, q, h => by
    rcases List.mem_cons.mp h with rfl | h
    · exact List.mem_cons_self
    · exact List.mem_cons_of_mem _ (kidsT_in h)
theorem goodAll_mem {us : List Int} : ∀ {cs : List Tr} {c : Tr}, GoodAll us cs → c ∈ cs → Good us c
  | [], _, _, h => by cases h
  | d :: cs, c, g, h => by
    simp only [GoodAll] at g
    rcases List.mem_cons.mp h with rfl | h
    · exact g.1
    · exact goodAll_mem g.2 h
theorem fitAll_mem {M : Int} : ∀ {cs : List Tr} {c : Tr}, FitAll M cs → c ∈ cs → Fit M c
  | [], _, _, h => by cases h
  | d :: cs, c, g, h => by
    simp only [FitAll] at g
    rcases List.mem_cons.mp h with rfl | h
    · exact g.1
    · exact fitAll_mem g.2 h
theorem lineP_fine {us : List Int} : ∀ (k : Nat) (r : List (List Int × Tr)), k ≤ 8 → (flatT r).length ≤ k → (∀ q ∈ r, Good us q.2 ∧ Fit (10 ^ 60) q.2) → lineP us.length k (r.map pairP) = none
  | k, [], _, _, _ => lineP_nil
  | 0, q :: r, _, h, _ => by
    have := flatT_len (r := q :: r)
    simp at this
    omega
  | k + 1, (p, .nd s a un) :: r, h8, h, hf => by
    have h0 := hf _ List.mem_cons_self
    have g := h0.1
    have f := h0.2
    simp only [Good] at g
    simp only [Fit] at f
    have eL : flatT ((p, .nd s a un) :: r) = (p, .nd s a un) :: flatT (kidsT p 0 un ++ r) := by
      rw [flatT_app, kidsT_flat]
      simp [flatT, ysT]
    rw [eL, List.length_cons] at h
    have hk : un.length ≤ 8 := by
      have := flatT_len (r := kidsT p 0 un ++ r)
      rw [List.length_append, kidsT_len] at this
      omega
    have hy : yardP us.length (trD (.nd s a un)) = true := by
      simp only [trD, yardP]
      rw [rowP_of g.1.1 f.1, rowP_of g.2.1.1 f.2.1]
      rfl
    rw [List.map_cons]
    show lineP us.length (k + 1) ((p, trD (.nd s a un)) :: r.map pairP) = none
    rw [lineP, hy, if_pos rfl]
    have eu : unP (trD (.nd s a un)) = trDs un := by simp only [trD, unP]
    rw [eu, List.take_of_length_le (by rw [trDs_map, List.length_map]; exact hk), kids_pair, ← List.map_append]
    refine lineP_fine k _ (by omega) (by omega) fun q hq => ?_
    rcases List.mem_append.mp hq with hq | hq
    · exact ⟨goodAll_mem g.2.2 (kidsT_in hq), fitAll_mem f.2.2 (kidsT_in hq)⟩
    · exact hf q (List.mem_cons_of_mem _ hq)
theorem need_fine {us : List Int} (hU : Us us) {t : Tr} (g : Good us t) (f : Fit (10 ^ 60) t) (hz : (ysT t []).length ≤ 8) : needTreeP (dR us) (trD t) = .ok (trD t) := by
  unfold needTreeP
  rw [if_pos (unitsP_of hU)]
  have hl : lenP (dR us) = us.length := by simp [lenP, dR]
  have := lineP_fine (us := us) 8 [([], t)] (Nat.le_refl _) (by simpa [flatT] using hz) (by simpa using ⟨g, f⟩)
  rw [hl]
  have e : ([([], t)] : List (List Int × Tr)).map pairP = [([], trD t)] := rfl
  rw [e] at this
  rw [this]
  rfl
end K26
set_option Elab.async false
set_option linter.all false
set_option maxRecDepth 100000
set_option maxHeartbeats 4000000
namespace K26
open PySem PySem.Spec PyProof.Rows L2 RZ RT
mutual
theorem fit_of {us : List Int} (hU : Us us) : ∀ t : Tr, Good us t → Lit us t → Fit 4 t
  | .nd s a un, g, l => by
    simp only [Good] at g
    simp only [Lit] at l
    simp only [Fit]
    refine ⟨fun x hx => ?_, fun x hx => ?_, fits_of hU un g.2.2 l.2.2⟩
    · have := (row_bd hU g.1).2 x hx
      omega
    · have := (row_bd hU g.2.1).2 x hx
      omega
theorem fits_of {us : List Int} (hU : Us us) : ∀ cs : List Tr, GoodAll us cs → LitAll us cs → FitAll 4 cs
  | [], _, _ => trivial
  | c :: cs, g, l => by
    simp only [GoodAll] at g
    simp only [LitAll] at l
    exact ⟨fit_of hU c g.1 l.1, fits_of hU cs g.2 l.2⟩
end
mutual
theorem fit_mono {M N : Int} (h : M ≤ N) : ∀ t : Tr, Fit M t → Fit N t
  | .nd s a un, f => by
    simp only [Fit] at f ⊢
    exact ⟨fun x hx => ⟨(f.1 x hx).1, Int.le_trans (f.1 x hx).2 h⟩, fun x hx => ⟨(f.2.1 x hx).1, Int.le_trans (f.2.1 x hx).2 h⟩, fits_mono h un f.2.2⟩
theorem fits_mono {M N : Int} (h : M ≤ N) : ∀ cs : List Tr, FitAll M cs → FitAll N cs
  | [], _ => trivial
  | c :: cs, f => by
    simp only [FitAll] at f ⊢
    exact ⟨fit_mono h c f.1, fits_mono h cs f.2⟩
end
theorem add_bd {M N : Int} : ∀ {a b : List Int}, (∀ x ∈ a, 0 ≤ x ∧ x ≤ M) → (∀ x ∈ b, 0 ≤ x ∧ x ≤ N) → ∀ x ∈ add a b, 0 ≤ x ∧ x ≤ M + N
  | [], _, _, _, x, hx => by simp [add] at hx
  | _ :: _, [], _, _, x, hx => by simp [add] at hx
  | y :: a, z :: b, h, k, x, hx => by
    simp only [add] at hx
    rcases List.mem_cons.mp hx with rfl | hx
    · have h1 := h y List.mem_cons_self
      have h2 := k z List.mem_cons_self
      omega
    · exact add_bd (fun w hw => h w (List.mem_cons_of_mem _ hw)) (fun w hw => k w (List.mem_cons_of_mem _ hw)) x hx
theorem fitAll_chg {M N : Int} {f : Tr → Tr} (h : M ≤ N) : ∀ {cs : List Tr} {i : Nat}, FitAll M cs → (∀ c, cs[i]? = some c → Fit N (f c)) → FitAll N (chg cs i f)
  | [], _, _, _ => trivial
  | c :: cs, 0, hg, k => by
    simp only [FitAll] at hg
    simp only [chg, FitAll]
    exact ⟨k c rfl, fits_mono h cs hg.2⟩
  | c :: cs, i + 1, hg, k => by
    simp only [FitAll] at hg
    simp only [chg, FitAll]
    exact ⟨fit_mono h c hg.1, fitAll_chg h hg.2 fun d hd => k d (by simpa using hd)⟩
theorem fitAll_get {M : Int} : ∀ {cs : List Tr} {i : Nat} {c : Tr}, FitAll M cs → cs[i]? = some c → Fit M c := fun h k => fitAll_mem h (List.mem_of_getElem? k)
theorem fit_stk {M N : Int} {x : List Int} (hN : 0 ≤ N) (hx : ∀ y ∈ x, 0 ≤ y ∧ y ≤ N) : ∀ {r : List Nat} {t : Tr}, Fit M t → Fit (M + N) (stk x r t)
  | [], .nd s a un, h => by
    simp only [Fit] at h
    simp only [stk, Fit]
    exact ⟨add_bd h.1 hx, fun y hy => ⟨(h.2.1 y hy).1, by have := (h.2.1 y hy).2; omega⟩, fits_mono (by omega) un h.2.2⟩
  | i :: r, .nd s a un, h => by
    simp only [Fit] at h
    simp only [stk, Fit]
    exact ⟨fun y hy => ⟨(h.1 y hy).1, by have := (h.1 y hy).2; omega⟩, fun y hy => ⟨(h.2.1 y hy).1, by have := (h.2.1 y hy).2; omega⟩, fitAll_chg (by omega) h.2.2 fun c hc => fit_stk hN hx (fitAll_get h.2.2 hc)⟩
theorem len_chg {f : Tr → Tr} : ∀ {cs : List Tr} {i : Nat} {p : List Int} {j : Nat}, (∀ c, cs[i]? = some c → ∀ q, (ysT (f c) q).length = (ysT c q).length) → (yss (chg cs i f) p j).length = (yss cs p j).length
  | [], _, _, _, _ => rfl
  | c :: cs, 0, p, j, h => by
    simp only [chg, yss, List.length_append]
    rw [h c rfl]
  | c :: cs, i + 1, p, j, h => by
    simp only [chg, yss, List.length_append]
    rw [len_chg (cs := cs) (i := i) fun d hd => h d (by simpa using hd)]
theorem len_stk {x : List Int} : ∀ {r : List Nat} {t : Tr} {p : List Int}, (ysT (stk x r t) p).length = (ysT t p).length
  | [], .nd s a un, p => by simp only [stk, ysT, List.length_cons]
  | i :: r, .nd s a un, p => by
    simp only [stk, ysT, List.length_cons]
    rw [len_chg fun c _ q => len_stk]
theorem wTs_chg {us : List Int} {f : Tr → Tr} {m : Int} : ∀ {cs : List Tr} {i : Nat} {c : Tr}, cs[i]? = some c → wT us (f c) = wT us c + m → wTs us (chg cs i f) = wTs us cs + m
  | [], _, _, h, _ => by simp at h
  | c :: cs, 0, d, h, k => by
    simp only [List.getElem?_cons_zero, Option.some.injEq] at h
    subst h
    simp only [chg, wTs, k]
    omega
  | c :: cs, i + 1, d, h, k => by
    simp only [chg, wTs]
    rw [wTs_chg (cs := cs) (i := i) (by simpa using h) k]
    omega
theorem wT_stk {us x : List Int} (hx : Row us x) : ∀ {r : List Nat} {t s : Tr}, Good us t → sub? r t = some s → wT us (stk x r t) = wT us t + tot us x
  | [], .nd s a un, _, g, _ => by
    simp only [Good] at g
    simp only [stk, wT]
    have : tot us (add s x) = tot us s + tot us x := dot_add (by rw [g.1.1, hx.1])
    omega
  | i :: r, .nd s a un, s', g, h => by
    simp only [Good] at g
    simp only [sub?] at h
    split at h
    · cases h
    · rename_i c hc
      simp only [stk, wT]
      rw [wTs_chg hc (wT_stk hx (goodAll_get g.2.2 hc) h)]
      omega
mutual
theorem wT_le {us : List Int} : ∀ t : Tr, Lit us t → wT us t ≤ 4 * ((ysT t []).length : Int)
  | .nd s a un, l => by
    simp only [Lit] at l
    simp only [wT]
    have := wTs_le un l.2.2
    rw [ysT, List.length_cons]
    push_cast
    omega
theorem wTs_le {us : List Int} : ∀ cs : List Tr, LitAll us cs → wTs us cs ≤ 4 * ((yss cs [] 0).length : Int)
  | [], _ => by simp [wTs, yss]
  | c :: cs, l => by
    simp only [LitAll] at l
    simp only [wTs]
    have h1 := wT_le c l.1
    have h2 := wTs_le cs l.2
    have e2 := len_ysT c ([] ++ [2, ((0 : Nat) : Int)]) []
    have e3 := len_yss cs [] [] (0 + 1) 0
    rw [yss, List.length_append, e2, e3]
    push_cast
    omega
end
/-! ### heaps in which tables grow -/
mutual
theorem At.ext {H H' : Hp} (e : LamX.ExtN H H') : ∀ {v : V} {d : PyData}, At H v d → At H' v d
  | _, _, .non => .non
  | _, _, .bl b => .bl b
  | _, _, .int i => .int i
  | _, _, .str x => .str x
  | _, _, .lst h k => .lst (e _ _ h (fun _ z => by cases z)) (AtAll.ext e k)
  | _, _, .tup h k => .tup (e _ _ h (fun _ z => by cases z)) (AtAll.ext e k)
theorem AtAll.ext {H H' : Hp} (e : LamX.ExtN H H') : ∀ {vs : List V} {ds : List PyData}, AtAll H vs ds → AtAll H' vs ds
  | _, _, .nil => .nil
  | _, _, .cons h k => .cons (At.ext e h) (AtAll.ext e k)
end
/-- what is heard of an outcome -/
def hearD : Out → PyData
  | .ok d => .tuple [.str "is", d]
  | .units d => .tuple [.str "units", d, .bool true]
  | .row d => .tuple [.str "row", d, .bool true]
  | .tree d => .tuple [.str "tree", d, .bool true]
  | .index d => .tuple [.str "index", d, .bool true]
  | .great => .tuple [.str "great", .int 8, .bool true]
  | .lack => .tuple [.str "none", .bool true]
theorem hear_go {A : XA} {H : Hp} {Q : VK} {o : Out} (ho : ∀ d, o ≠ .row d) (k : Ret H Q (hearD o)) :
    Go A H (fun v H' => ([V.str "is", v] : List V).length ≤ sizeLine ∧ ∀ p, H' p = none → ∃ x, some (some (V.ref p)) = some (some x) ∧ Q x (upd H' p (.tup [.str "is", v]))) (Eh A Q) o := by
  have told : ∀ (g w : Str) (d : PyData) (C : Addr), Ret H Q (.tuple [.str w, d, .bool true]) → ∀ dx v H', Same H H' → H' dx = some (.xd [(g, v)]) → At H' v d → Tf C g w Q (.ref C) (some dx) H' := fun g w d C k dx v H' e h a =>
    ⟨rfl, dx, v, rfl, h, fun p hp => k.go (e.trans (same_new hp)) (.tup upd_same (.cons (.str w) (.cons (a.mono (same_new hp)) (.cons (.bl true) .nil))))⟩
  cases o with
  | ok d => exact fun v H' e a => ⟨small_ (by simp), fun p hp => ⟨_, rfl, k.go (e.trans (same_new hp)) (.tup upd_same (.cons (.str "is") (.cons (a.mono (same_new hp)) .nil)))⟩⟩
  | units d => exact fun dx v H' e h a => .inl (told "value" "units" d A.bu k dx v H' e h a)
  | row d => exact absurd rfl (ho d)
  | tree d => exact fun dx v H' e h a => .inr (.inl (told "path" "tree" d A.bt k dx v H' e h a))
  | index d => exact fun dx v H' e h a => .inr (.inr (.inl (told "value" "index" d A.bi k dx v H' e h a)))
  | great => exact fun dx v H' e h a => .inr (.inr (.inr (.inl (told "most" "great" (.int 8) A.tg k dx v H' e h a))))
  | lack => exact fun H' e => .inr (.inr (.inr (.inr ⟨rfl, fun p hp => k.go (e.trans (same_new hp)) (.tup upd_same (.cons (.str "none") (.cons (.bl true) .nil)))⟩)))
end K26
set_option Elab.async false
set_option linter.all false
set_option maxRecDepth 100000
set_option maxHeartbeats 4000000
namespace K26
open PySem PySem.Spec PyProof.Rows L2 RZ RT
/-! ## right: the walk -/
theorem tabs_fr {T : List (Addr × Str)} {H H' : Hp} {p c l : Addr} {n : Nat} (t : LamX.Tabs T H) (S : Stt H p c l n) (e : Fr p l H H') : LamX.Tabs T H' := fun q hq => by
  obtain ⟨ps, h1, h2, h3⟩ := t q hq
  obtain ⟨_, cs, ls, k1, k2, k3, _⟩ := S
  refine ⟨ps, e _ _ (ne_of h1 k1 (fun z => by cases z)) (ne_of h1 k3 (fun z => by cases z)) h1, h2, fun pos cv hc => ?_⟩
  obtain ⟨c', e1, e2⟩ := h3 pos cv hc
  refine ⟨c', e1, e _ _ (ne_of e2 k1 (fun z => ?_)) (ne_of e2 k3 (fun z => ?_)) e2⟩
  · have z' : HO.ext _ = HO.dK _ := z
    cases z'
  · have z' : HO.ext _ = HO.lst _ := z
    cases z'
/-- what right leans on, all the way -/
structure RE (T : List (Addr × Str)) (us : List Int) (t : Tr) (M : List (List Int)) (paths : List (List Nat)) (u v far : V) (sm D : Addr) (xs ps : List V) (H : Hp) : Prop where
  a1 : At H u (dR us)
  a2 : At H v (trD t)
  a3 : At H far (dR (farR us))
  s1 : H sm = some (.lst xs)
  s2 : AtAll H xs (M.map dR)
  d1 : H D = some (.lst ps)
  d2 : AtAll H ps (paths.map fun r => dR (flat r))
  tb : LamX.Tabs T H
theorem RE.mono {T : List (Addr × Str)} {us : List Int} {t : Tr} {M : List (List Int)} {paths : List (List Nat)} {u v far : V} {sm D : Addr} {xs ps : List V} {H H' : Hp} (r : RE T us t M paths u v far sm D xs ps H) (e : Same H H') : RE T us t M paths u v far sm D xs ps H' :=
  ⟨r.a1.mono e, r.a2.mono e, r.a3.mono e, e _ _ r.s1, r.s2.mono e, e _ _ r.d1, r.d2.mono e, r.tb.ext e⟩
theorem RE.ext {T : List (Addr × Str)} {us : List Int} {t : Tr} {M : List (List Int)} {paths : List (List Nat)} {u v far : V} {sm D : Addr} {xs ps : List V} {H H' : Hp} (r : RE T us t M paths u v far sm D xs ps H) (e : LamX.ExtN H H') (k : LamX.Tabs T H') : RE T us t M paths u v far sm D xs ps H' :=
  ⟨r.a1.ext e, r.a2.ext e, r.a3.ext e, e _ _ r.s1 (fun _ z => by cases z), r.s2.ext e, e _ _ r.d1 (fun _ z => by cases z), r.d2.ext e, k⟩
theorem noL_flats (paths : List (List Nat)) : noLs (paths.map fun r => dR (flat r)) = true := noLs_all fun d hd => by
  obtain ⟨r, _, rfl⟩ := List.mem_map.mp hd
  exact noL_dR _
def qR : Str := ("_law_right" : Str) ++ ".<locals>." ++ "<lambda>"
def qB : Str := ("_law_by_hand" : Str) ++ ".<locals>." ++ "<lambda>"
theorem leastP_eq {us : List Int} {t s : Tr} {r : List Nat} (h : sub? r t = some s) : leastP us t (dR (flat r)) = match least us r t with
    | none => .lack
    | some l => .ok (dR l) := by
  unfold leastP
  rw [yardAt_of h]
  simp only [unflat_path]
  first | done | (cases least us r t <;> rfl)
theorem rep_flat (z : Int) (n : Nat) : (List.replicate n [V.int z]).flatten = (List.replicate n z).map V.int := by
  induction n with
  | zero => rfl
  | succ n ih => rw [List.replicate_succ, List.flatten_cons, ih, List.replicate_succ]; rfl
theorem rep_row {K : PySem.W.Frag} {H : Hp} {Q : VK} {a : Addr} {z k : Int} {n : Nat} (h : H a = some (.tup [.int z])) (hk : k = (n : Int) + 1) (hn : n ≤ 900) (q : Ret H Q (dR (List.replicate (n + 1) z))) : rRepQ K (.ref a) (.int k) H Q := by
  subst hk
  refine ⟨a, _, _, rfl, rfl, sqT h, by simp, by omega, by omega, by simp, fun e => ?_, fun e m hm => ?_⟩
  · have : n = 0 := by omega
    subst this
    exact q.go (Same.refl _) (At.row h)
  · refine q.go (same_new hm) (At.row ?_)
    rw [upd_same, show ((n : Int) + 1).toNat = n + 1 by omega, rep_flat]
def spRight (T : List (Addr × Str)) : Sp := fun vs H Q _ => ∃ p c l, vs = [.ref p] ∧ Stt H p c l 0 ∧ LamX.Tabs T H ∧ ∀ H', LamX.Tabs T H' → Q (.bl true) H'
section
variable {P : Program} {w : World} {K : PySem.W.Frag} {mg : Str → Option Value} {base : Heap} {f fH : Addr} {fd fdH : FuncData} {A : XA} {CY PR PB c0 : Addr}
theorem sc_law_right : FnScope ["_law_state", "_law_units_so", "_law_tree_so", "_law_small", "_law_far", "_law_wide", "_law_yards_so", "_law_path", "_law_got", "_law_row_here", "_law_due", "_law_turn"] ["_law_state"] (defScope (top 66)) := ⟨rfl, rfl, rfl, by decide +kernel, rfl, by decide +kernel, by decide +kernel⟩
set_option maxHeartbeats 8000000 in
theorem ok_law_right (B : Bi mg) (D : Hd K mg A CY) (hPQ : PR ≠ PB) (hc0 : fd.code = .ref c0) (TB : LamX.TabB base mg c0 PR)
    (FH : FnP K "_law_heard" (top 64) fH fdH) (mH : mg "_law_heard" = some (.ref fH)) (kH : PySem.W.keepIn K (.ref fH) = true) (bH : Binds K fdH ["_law_call"] [])
    (C_least_added : Cal P w K mg base (L2.CX P w) 5 "least_added" ["units", "tree", "path"] (spLeast A)) (C_is_served : Cal P w K mg base (L2.CX P w) 5 "is_served" ["units", "tree"] (spServed A)) (C_stocked : Cal P w K mg base (L2.CX P w) 11 "stocked" ["units", "tree", "path", "row"] (spStocked A))
    (C_law_units : Cal P w K mg base CX0 3 "_law_units" ["_law_state"] spUnitsL) (C_law_grove : Cal P w K mg base CX0 8 "_law_grove" ["_law_state", "_law_units_so", "_law_many_so"] (spGrove 4)) (C_law_all_rows : Cal P w K mg base CX0 2 "_law_all_rows" ["_law_units_so", "_law_most"] spAllR)
    (C_law_yards : Cal P w K mg base CX0 5 "_law_yards" ["_law_tree_so", "_law_path"] (spYardsL 4)) (C_law_of : Cal P w K mg base CX0 3 "_law_of" ["_law_state", "_law_some"] spOf) (C_law_served_so : Cal P w K mg base CX0 24 "_law_served_so" ["_law_units_so", "_law_tree_so"] spSo)
    (C_law_stocked : Cal P w K mg base CX0 11 "_law_stocked" ["_law_tree_so", "_law_path", "_law_row_here"] (spStkL 9)) (C_law_fits : Cal P w K mg base CX0 2 "_law_fits" ["_law_units_so", "_law_order", "_law_stock"] spFits) (C_law_like : Cal P w K mg base CX0 1 "_law_like" ["_law_got", "_law_due"] spLikeB)
    (F : FnP K "_law_right" (top 66) f fd) : FnOk P w K mg base CX0 25 f fd ["_law_state"] (spRight [(PR, qR), (PB, qB)]) := by
  obtain ⟨oc, od, dV, kV, doc, pm, an, cdvH, ct, osl, rfl, lkH, hcH, _, _⟩ := FH.ex
  refine okC F sc_law_right (fun vs H Q E h => by obtain ⟨_, _, _, rfl, _⟩ := h; rfl) (fun cdv A' outer s0 H vs Q E hcd hr h => ?_)
  obtain rfl : cdv = .ref c0 := hcd.symm.trans hc0
  obtain ⟨p, c, l, rfl, S, tb, k⟩ := h
  refine ⟨(tSeq (tAsg (tCall spUnitsL [] E0 (tCons (tVar 0) tNil)) (gName 1))
  (tSeq (tAsg (tCall (spGrove 4) [] E0 (tCons (tVar 0) (tCons (tVar 1) (tCons (tC (.int 3)) tNil)))) (gName 2))
  (tSeq (tPar 3 4 (tCons (tCall spAllR [] E0 (tCons (tVar 1) (tCons (tC (.int 4)) tNil))) (tCons (tOp (rRepQ K) (tTup (tCons (tOp (rI CPow fun i j => .int (i ^ j.toNat)) (tC (.int 10)) (tC (.int 59))) tNil)) (tOp (rI0 fun i j => .int (i + j)) (tCB (rLenQ K) (tCons (tVar 1) tNil)) (tC (.int 1)))) tNil)))
  (tSeq (tAsg (tCB (rLenQ K) (tCons (tVar 4) tNil)) (gName 5))
  (tSeq (tAsg (tCall (spYardsL 4) [] E0 (tCons (tVar 2) (tCons (tTup tNil) tNil))) (gName 6))
  (tSeq (tFor (iList K (tLc (iRng1 (tCons (tC (.int 2)) tNil)) (gName 11) tYes (tOp (rIxT K) (tCall spOf [] E0 (tCons (tVar 0) (tCons (tVar 6) tNil))) (tC (.int 0))) [11])) (gName 7) (tSeq (tAsg (LamX.tLam [(PR, qR), (PB, qB)] (TTh A) fun E => (tCall (spLeast A) [] E (tCons (tVar 1) (tCons (tVar 2) (tCons (tVar 7) tNil))))) (gName 8))
  (tSeq (tIfS (tAnd (tTest (tOp rNe (tOp (rIxT K) (tVar 8) (tC (.int 0))) (tC (.str "none")))) (tOr (tTest (tOp rNe (tOp (rIxT K) (tVar 8) (tC (.int 0))) (tC (.str "is")))) (tOr (tNot (tB (tCB (rIsi K) (tCons (tOp (rIxT K) (tVar 8) (tC (.int 1))) (tCons (tC (.ty "tuple")) tNil))))) (tTest (tOp rNe (tCB (rLenQ K) (tCons (tOp (rIxT K) (tVar 8) (tC (.int 1))) tNil)) (tVar 5)))))) (tRet (tC (.bl false))) tNext)
  (tSeq (tFor (iList K (tVar 3)) (gName 9) (tSeq (tAsg (tCall spSo [] E0 (tCons (tVar 1) (tCons (tCall (spStkL 9) [] E0 (tCons (tVar 2) (tCons (tVar 7) (tCons (tVar 9) tNil)))) tNil))) (gName 10))
  (tIfS (tTest (tOp rNe (tAndV (tOp rEq (tOp (rIxT K) (tVar 8) (tC (.int 0))) (tC (.str "is"))) (tCall spFits [] E0 (tCons (tVar 1) (tCons (tOp (rIxT K) (tVar 8) (tC (.int 1))) (tCons (tVar 9) tNil))))) (tVar 10))) (tRet (tC (.bl false))) tNext)))
  (tIfS (tNot (tB (tCall spLikeB [] E0 (tCons (tCall (spServed A) [] E0 (tCons (tVar 1) (tCons (tCall (spStocked A) [] E0 (tCons (tVar 1) (tCons (tVar 2) (tCons (tVar 7) (tCons (tVar 4) tNil))))) tNil))) (tCons (tOp rEq (tOp (rIxT K) (tVar 8) (tC (.int 0))) (tC (.str "is"))) tNil))))) (tRet (tC (.bl false))) tNext)))))
  (tRet (tC (.bl true))))))))),
    (pss_cons (ps_set (i := 1) sc_law_right.nd rfl (by first | exact Or.inl rfl | exact Or.inr rfl) (pe_cal C_law_units hr (by first | decide | omega) (by rfl) pass0 (pa_cons (pv 0) pa_nil)))
  (pss_cons (ps_set (i := 2) sc_law_right.nd rfl (by first | exact Or.inl rfl | exact Or.inr rfl) (pe_cal C_law_grove hr (by first | decide | omega) (by rfl) pass0 (pa_cons (pv 0) (pa_cons (pv 1) (pa_cons pe_int pa_nil)))))
  (pss_cons (ps_par (i := 3) (j := 4) rfl sc_law_right.nd rfl rfl (by decide) rfl rfl (pa_cons (pe_cal C_law_all_rows hr (by first | decide | omega) (by rfl) pass0 (pa_cons (pv 1) (pa_cons pe_int pa_nil))) (pa_cons (pe_op op_repT1 (pe_tup (pa_cons (pe_op op_pow pe_int pe_int) pa_nil)) (pe_op op_add (pe_callB call_lenQ (by rfl) B.len (by decide +kernel) (pa_cons (pv 1) pa_nil)) pe_int)) pa_nil)) (by rfl))
  (pss_cons (ps_set (i := 5) sc_law_right.nd rfl (by first | exact Or.inl rfl | exact Or.inr rfl) (pe_callB call_lenQ (by rfl) B.len (by decide +kernel) (pa_cons (pv 4) pa_nil)))
  (pss_cons (ps_set (i := 6) sc_law_right.nd rfl (by first | exact Or.inl rfl | exact Or.inr rfl) (pe_cal C_law_yards hr (by first | decide | omega) (by rfl) pass0 (pa_cons (pv 2) (pa_cons (pe_tup pa_nil) pa_nil))))
  (pss_cons (ps_for PassesOwn.never rfl (pi_list (pe_lc (own := [("_law_turn", 11)]) (g := (gName 11)) (tt := tYes) (te := (tOp (rIxT K) (tCall spOf [] E0 (tCons (tVar 0) (tCons (tVar 6) tNil))) (tC (.int 0)))) rfl sc_law_right.nd (pi_range1 (by rfl) B.range (pa_cons pe_int pa_nil)) (blkOk_by (N := ["_law_state", "_law_units_so", "_law_tree_so", "_law_small", "_law_far", "_law_wide", "_law_yards_so", "_law_path", "_law_got", "_law_row_here", "_law_due", "_law_turn"]) (sc := defScope (top 66)) (by decide +kernel)) (fun _ _ _ _ _ => (pg_name (i := 11) sc_law_right.nd rfl (by first | exact Or.inl rfl | exact Or.inr rfl))) (fun _ _ _ _ _ => pts_nil) (fun _ _ _ _ _ => (pe_ix ix_tup (pe_cal C_law_of hr (by first | decide | omega) (by rfl) pass0 (pa_cons (pv 0) (pa_cons (pv 6) pa_nil))) pe_int (fun _ _ => rfl))))) (pg_name (i := 7) sc_law_right.nd rfl (by first | exact Or.inl rfl | exact Or.inr rfl))
  (pss_cons (ps_set (i := 8) sc_law_right.nd rfl (by first | exact Or.inl rfl | exact Or.inr rfl) (LamX.pe_lamcall (T := [(PR, qR), (PB, qB)]) (TT := TTh A) (Ng := ["_law_call", "_law_told", "error_so"]) (k := 5) (t := fun E => (tCall (spLeast A) [] E (tCons (tVar 1) (tCons (tVar 2) (tCons (tVar 7) tNil))))) rfl mH kH lkH hcH bH sc_heard rfl (Or.inl rfl) (heard_gives B D) TB rfl List.mem_cons_self (fun q hq e => by rcases List.mem_cons.mp hq with rfl | hq; exact rfl; rw [List.mem_singleton] at hq; subst hq; exact absurd e.symm hPQ) (hr.mono (by omega)) (LamX.lamS_by (by show LamX.lamSB (defScope (top 66)) _ = true; decide +kernel)) rfl (fun _ _ _ _ _ => rfl) (fun A1 o1 s1 H1 E1 f1 c1 hr2 => pe_cal C_least_added hr2 (by decide) (by rfl) (passes_call (takes_of rfl rfl rfl rfl) (fun _ _ _ _ h => h)) (pa_cons (pv 1) (pa_cons (pv 2) (pa_cons (pv 7) pa_nil))))))
  (pss_cons (ps_if (PW.pt (pw_and (pt_cmpR op_ne (pe_ix ix_tup (pv 8) pe_int (fun _ _ => rfl)) pe_str (nomark _)) (pw_and1 (PW.pt (pw_or (pt_cmpR op_ne (pe_ix ix_tup (pv 8) pe_int (fun _ _ => rfl)) pe_str (nomark _)) (pw_or (pt_not (pt_val (pe_callB call_isi (by rfl) B.isinstance (by decide +kernel) (pa_cons (pe_ix ix_tup (pv 8) pe_int (fun _ _ => rfl)) (pa_cons (pe_bty B.tuple rfl (by decide +kernel)) pa_nil))))) (pw_or1 (pt_cmpR op_ne (pe_callB call_lenQ (by rfl) B.len (by decide +kernel) (pa_cons (pe_ix ix_tup (pv 8) pe_int (fun _ _ => rfl)) pa_nil)) (pv 5) (nomark _)))))))))
  (pss_one (ps_ret pe_bl))
  pss_nil)
  (pss_cons (ps_for PassesOwn.never rfl (pi_list (pv 3)) (pg_name (i := 9) sc_law_right.nd rfl (by first | exact Or.inl rfl | exact Or.inr rfl))
  (pss_cons (ps_set (i := 10) sc_law_right.nd rfl (by first | exact Or.inl rfl | exact Or.inr rfl) (pe_cal C_law_served_so hr (by first | decide | omega) (by rfl) pass0 (pa_cons (pv 1) (pa_cons (pe_cal C_law_stocked hr (by first | decide | omega) (by rfl) pass0 (pa_cons (pv 2) (pa_cons (pv 7) (pa_cons (pv 9) pa_nil)))) pa_nil))))
  (pss_one (ps_if (pt_cmpR op_ne (pe_and (pe_cmpR op_eq (pe_ix ix_tup (pv 8) pe_int (fun _ _ => rfl)) pe_str (nomark _)) (pe_one (pe_cal C_law_fits hr (by first | decide | omega) (by rfl) pass0 (pa_cons (pv 1) (pa_cons (pe_ix ix_tup (pv 8) pe_int (fun _ _ => rfl)) (pa_cons (pv 9) pa_nil)))))) (pv 10) (nomark _))
  (pss_one (ps_ret pe_bl))
  pss_nil))))
  (pss_one (ps_if (pt_not (pt_val (pe_cal C_law_like hr (by first | decide | omega) (by rfl) pass0 (pa_cons (pe_cal C_is_served hr (by first | decide | omega) (by rfl) (passes_call LamX.takes0 (fun _ _ _ _ h => h)) (pa_cons (pv 1) (pa_cons (pe_cal C_stocked hr (by first | decide | omega) (by rfl) (passes_call LamX.takes0 (fun _ _ _ _ h => h)) (pa_cons (pv 1) (pa_cons (pv 2) (pa_cons (pv 7) (pa_cons (pv 4) pa_nil))))) pa_nil))) (pa_cons (pe_cmpR op_eq (pe_ix ix_tup (pv 8) pe_int (fun _ _ => rfl)) pe_str (nomark _)) pa_nil)))))
  (pss_one (ps_ret pe_bl))
  pss_nil))))))
  (pss_one (ps_ret pe_bl)))))))), ?_⟩
  have no : ∀ {d : PyData}, noL d = true → noL d = true := fun h => h
  -- units
  refine ⟨_, rfl, p, c, l, 0, rfl, S, by omega, fun u us H1 m1 hu2 hub hm1 e1 S1 a1 => ?_⟩
  have hU : Us us := ⟨by omega, fun z hz => ⟨(hub z hz).1, by have := (hub z hz).2; omega⟩⟩
  have tb1 := tabs_fr tb S e1
  -- tree
  refine ⟨_, rfl, _, rfl, p, c, l, m1, u, us, 3, rfl, S1, by omega, a1, hU, by omega, by omega, by omega, fun v t H2 m2 hg hlit hz3 hm2 e2 S2 a2 => ?_⟩
  have b1 := a1.st S1 e2 (noL_dR _)
  have tb2 := tabs_fr tb1 S1 e2
  -- small, far
  refine ⟨_, rfl, u, us, rfl, b1, hU, hu2, fun sm xs H3 M e3 hsm0 hsm hM hMl hMr => ?_⟩
  obtain ⟨pu, rfl, hpu⟩ := b1.of_row
  refine ⟨_, _, rfl, rfl, ⟨by decide, by decide, by decide⟩, small_ (by simp), fun t1 ht1 => ?_⟩
  have n1 := e3.trans (same_new (o := .tup [.int (10 ^ 59)]) ht1)
  refine ⟨_, rfl, pu, _, rfl, .inr (sqT (n1 _ _ hpu)), _, 1, rfl, rfl, ?_⟩
  refine rep_row (n := us.length) upd_same (by rw [List.length_map]) (by omega) fun x4 H4 e4 a4 => ?_
  have e24 := n1.trans e4
  have e34 := (same_new (o := .tup [.int (10 ^ 59)]) ht1).trans e4
  have a4 : At H4 x4 (dR (farR us)) := a4
  obtain ⟨pf, rfl, hpf⟩ := a4.of_row
  refine ⟨_, _, rfl, ?_⟩
  refine ⟨_, rfl, pf, _, rfl, .inr (sqT hpf), ?_⟩
  have hwide : (((farR us).map V.int).length : Nat) = us.length + 1 := by simp [farR]
  -- yards
  refine ⟨_, rfl, small_ (by simp), fun t5 ht5 => ?_⟩
  have n5 := same_new (o := .tup []) ht5
  refine ⟨v, .ref t5, t, [], rfl, a2.mono (e24.trans n5), At.row (l := []) upd_same, by omega, by omega, by simp; omega, fun ly ys H6 e6 hly0 hly hys => ?_⟩
  have e56 := n5.trans e6
  have e26 := e24.trans e56
  have S6 := S2.mono e26
  obtain ⟨hlp, hlc, hll⟩ := (S2.mono (e24.trans n5)).off hly0
  obtain ⟨hsp, hsc, hsl⟩ := S2.off hsm0
  have lys := hys.len
  rw [List.length_map] at lys
  have hpos := ysT_pos (t := t) (p := [])
  -- two paths
  refine ⟨2, rfl, by omega, by omega, fun D hD => ?_⟩
  obtain ⟨hDp, hDc, hDl⟩ := S6.off hD
  have nD := same_new (o := .lst []) hD
  refine lc_it walk_range (fun i H' => ∃ (paths : List (List Nat)) (ps : List V) (m : Nat), (∀ r ∈ paths, ∃ s, sub? r t = some s) ∧ Fr p l H6 H' ∧ Stt H' p c l m ∧ m ≤ m2 + i ∧ H' D = some (.lst ps) ∧ AtAll H' ps (paths.map fun r => dR (flat r)) ∧ ps.length = i)
    ⟨[], [], m2, by simp, .of nD, S6.mono nD, Nat.le_refl _, upd_same, .nil, rfl⟩ (fun _ _ _ _ => trivial) ?_ ?_
  · rintro i x H7o H7 hi ⟨paths, ps, m, hpa, e7, S7, hm, hD7, hps, hpl⟩ ⟨rfl, rfl⟩
    refine ⟨rfl, yes_if ?_⟩
    refine ⟨_, rfl, _, rfl, p, c, l, ly, m, ys, rfl, S7, by omega, hlp, hll, e7 _ _ hlp hll hly, by omega, by omega, fun j y H8 hy e8 S8 => ?_⟩
    obtain ⟨d, hd, ad⟩ := hys.getv hy
    rw [List.getElem?_map] at hd
    obtain ⟨q, hq, rfl⟩ : ∃ q, (ysT t [])[j]? = some q ∧ itemT q = d := by
      cases hq : (ysT t [])[j]? with
      | none => rw [hq] at hd; cases hd
      | some q => rw [hq] at hd; exact ⟨q, rfl, Option.some.inj hd⟩
    obtain ⟨r, hr1, hr2⟩ := (mem_ysT t [] q).mp (List.mem_of_getElem? hq)
    rw [List.nil_append] at hr1
    have ad8 : At H8 y (itemT q) := ad.st S6 (e7.trans e8) (by simp [itemT, noL, noLs, noL_dR, noL_trD])
    obtain ⟨T, x0, x1, rfl, hT, h0, h1⟩ := ad8.two
    rw [hr1] at h0
    have hD8 := e8 _ _ hDp hDl hD7
    have hps8 : AtAll H8 ps (paths.map fun r => dR (flat r)) := hps.fr e8 S7.ntp S7.ntl (noL_flats paths)
    refine ⟨T, _, 0, _, rfl, rfl, sqT hT, atI_nat (j := 0) rfl, ps, hD8, small' (by omega), paths ++ [r], ps ++ [x0], m + 1, ?_, (e7.trans e8).mut hD, S8.upd hDp hDc hDl, by omega, upd_same, ?_, by rw [List.length_append]; simp [hpl]⟩
    · intro r' hr'
      rcases List.mem_append.mp hr' with hr' | hr'
      · exact hpa r' hr'
      · rw [List.mem_singleton] at hr'
        rw [hr']
        exact ⟨_, hr2⟩
    · rw [List.map_append]
      exact (hps8.mut (nt_lst hD8) (noL_flats paths)).app (AtAll.one (h0.mut (nt_lst hD8) (noL_dR _)))
  · rintro H7 ⟨paths, ps, m, hpa, e7, S7, hm, hD7, hps, hpl⟩
    have lps := hps.len
    rw [List.length_map] at lps
    have e36 := e34.trans e56
    have re7 : RE [(PR, qR), (PB, qB)] us t M paths (.ref pu) v (.ref pf) sm D xs ps H7 :=
      ⟨(At.mono e26 b1).st S6 e7 (noL_dR _), (a2.mono e26).st S6 e7 (noL_trD _), (a4.mono e56).st S6 e7 (noL_dR _), e7 _ _ hsp hsl (e36 _ _ hsm), (hM.mono e36).fr e7 S6.ntp S6.ntl (noL_rows M), hD7, hps, tabs_fr (tb2.ext e26) S6 e7⟩
    refine ⟨D, rfl, ⟨ps, sqL hD7⟩, ?_⟩
    refine for_it (walk_list (xs := ps)) (fun i σ H' => ∃ (y7 y8 y9 y10 : Option V), σ = [some (.ref p), some (.ref pu), some v, some (.ref sm), some (.ref pf), some (.int (((farR us).map V.int).length : Nat)), some (.ref ly), y7, y8, y9, y10, none] ∧ RE [(PR, qR), (PB, qB)] us t M paths (.ref pu) v (.ref pf) sm D xs ps H')
      ⟨none, none, none, none, rfl, re7⟩ (fun i σ H' _ h => ?_) ?_ ?_
    · obtain ⟨_, _, _, _, _, h⟩ := h
      exact sqL h.d1
    · rintro i y σ H8o H8 hi ⟨y7, y8, y9, y10, rfl, re⟩ hY
      obtain ⟨rfl, hy⟩ := hY
      obtain ⟨d, hd, ay⟩ := re.d2.getv hy
      rw [List.getElem?_map] at hd
      obtain ⟨r, hr0, rfl⟩ : ∃ r, paths[i]? = some r ∧ dR (flat r) = d := by
        cases hq : paths[i]? with
        | none => rw [hq] at hd; cases hd
        | some q => rw [hq] at hd; exact ⟨q, rfl, Option.some.inj hd⟩
      obtain ⟨ts, hsub⟩ := hpa r (List.mem_of_getElem? hr0)
      have hlen := len_sub hsub
      have hfit := fit_of hU t hg hlit
      have hnf := need_fine hU hg (fit_mono (by decide) t hfit) (by omega)
      -- got
      refine ⟨re.tb, fun H9 eN tb9 => ?_⟩
      have re9 := re.ext eN tb9
      have ay9 := ay.ext eN
      refine ⟨_, rfl, _, rfl, _, rfl, .ref pu, v, y, dR us, trD t, dR (flat r), rfl, re9.a1, re9.a2, ay9, canLay_trD t, fun ds e => ?_, .inr ⟨us, t, rfl, hU, rfl, hg, by omega, hnf, ?_⟩⟩
      · cases e
        rw [List.length_map, flat_len]
        omega
      refine hear_go (fun d e => ?_) fun got H10 e10 agot => ?_
      · rw [leastP_eq hsub] at e
        cases hq : least us r t <;> rw [hq] at e <;> cases e
      rw [leastP_eq hsub] at agot
      have re10 := re9.mono e10
      have ay10 := ay9.mono e10
      obtain ⟨ss, sa, un⟩ := ts
      -- what was heard
      obtain ⟨pg, x0, rest, is, rfl, hpg, hx0, hnone, hsome⟩ : ∃ (pg : Addr) (x0 : V) (rest : List V) (is : Bool), got = .ref pg ∧ H10 pg = some (.tup (x0 :: rest)) ∧ x0 = (if is then .str "is" else .str "none") ∧ (is = false → least us r t = none) ∧ (is = true → ∃ l x1, least us r t = some l ∧ rest = [x1] ∧ At H10 x1 (dR l)) := by
        cases hq : least us r t with
        | none =>
          rw [hq] at agot
          obtain ⟨pg, x0, x1, rfl, h1, h2, h3⟩ := At.two agot
          cases h2
          exact ⟨pg, _, [x1], false, rfl, h1, rfl, fun _ => rfl, fun z => by cases z⟩
        | some lr =>
          rw [hq] at agot
          obtain ⟨pg, x0, x1, rfl, h1, h2, h3⟩ := At.two agot
          cases h2
          exact ⟨pg, _, [x1], true, rfl, h1, rfl, (fun z => by cases z), fun _ => ⟨lr, x1, rfl, rfl, h3⟩⟩
      have hN : decide (x0 = V.str "none") = !is := by subst hx0; cases is <;> decide +kernel
      have hI : decide (x0 = V.str "is") = is := by subst hx0; cases is <;> decide +kernel
      have hsc : scal x0 (V.str "none") = true ∧ scal x0 (V.str "is") = true := by subst hx0; cases is <;> exact ⟨rfl, rfl⟩
      have hlrow : ∀ lr, least us r t = some lr → Row us lr := fun lr h => by
        unfold least at h
        split at h
        · rename_i s1 a1 un1 row1 hs1 hh1
          cases h
          have gs := good_sub hg hs1
          simp only [Good] at gs
          exact lk_row (asked_row gs.2.2 gs.2.1).1 (gs.1.add (hd_row hU.ps hg (zer_row us) hh1)).1
        · cases h
      refine ⟨_, rfl, pg, _, 0, _, rfl, rfl, sqT hpg, atI_nat (j := 0) rfl, hsc.1, _, rfl, ?_⟩
      rw [hN, Bool.not_not]
      have first : ∀ Z : Bool → Hp → Prop, Z false H10 → (if is = true then (tOr (tTest (tOp rNe (tOp (rIxT K) (tVar 8) (tC (.int 0))) (tC (.str "is")))) (tOr (tNot (tB (tCB (rIsi K) (tCons (tOp (rIxT K) (tVar 8) (tC (.int 1))) (tCons (tC (.ty "tuple")) tNil))))) (tTest (tOp rNe (tCB (rLenQ K) (tCons (tOp (rIxT K) (tVar 8) (tC (.int 1))) tNil)) (tVar 5))))) [some (.ref p), some (.ref pu), some v, some (.ref sm), some (.ref pf), some (.int (((farR us).map V.int).length : Nat)), some (.ref ly), some y, some (.ref pg), y9, y10, none] H10 Z else Z false H10) := by
        intro Z hZ
        cases is with
        | false => exact iteF hZ
        | true =>
          obtain ⟨lr, x1, h1, rfl, h3⟩ := hsome rfl
          obtain ⟨p1, rfl, hp1⟩ := h3.of_row
          refine iteT ⟨_, rfl, pg, _, 0, _, rfl, rfl, sqT hpg, atI_nat (j := 0) rfl, hsc.2, _, rfl, ?_⟩
          rw [hI]
          refine iteF ⟨_, rfl, pg, _, 1, _, rfl, rfl, sqT hpg, atI_nat (j := 1) rfl, _, _, _, _, true, rfl, .ty _, .base (.tup hp1), kit_ty (by decide +kernel), _, rfl, iteF ⟨_, rfl, pg, _, 1, _, rfl, rfl, sqT hpg, atI_nat (j := 1) rfl, p1, _, rfl, .inr (sqT hp1), _, rfl, rfl, _, rfl, ?_⟩⟩
          rw [List.length_map, (hlrow lr h1).1, hwide, decide_eq_true rfl]
          exact hZ
      refine first _ (iteF ?_)
      -- the rows
      refine ⟨_, rfl, sm, rfl, ⟨xs, sqL re10.s1⟩, ?_⟩
      have lxs := hM.len
      rw [List.length_map] at lxs
      refine for_it (walk_list (xs := xs)) (fun j σ H' => ∃ (z9 z10 : Option V), σ = [some (.ref p), some (.ref pu), some v, some (.ref sm), some (.ref pf), some (.int (((farR us).map V.int).length : Nat)), some (.ref ly), some y, some (.ref pg), z9, z10, none] ∧ Same H10 H')
        ⟨_, _, rfl, Same.refl _⟩ (fun j σ H' _ h => ?_) ?_ ?_
      · obtain ⟨_, _, _, e⟩ := h
        exact sqL (e _ _ re10.s1)
      · rintro j z σ H11o H11 hj ⟨z9, z10, rfl, e11⟩ hY
        obtain ⟨rfl, hz⟩ := hY
        obtain ⟨d, hd, aq⟩ := (re10.s2.mono e11).getv hz
        rw [List.getElem?_map] at hd
        obtain ⟨q, hq, rfl⟩ : ∃ q, M[j]? = some q ∧ dR q = d := by
          cases hq : M[j]? with
          | none => rw [hq] at hd; cases hd
          | some q => rw [hq] at hd; exact ⟨q, rfl, Option.some.inj hd⟩
        obtain ⟨rq, tq⟩ := hMr q (List.mem_of_getElem? hq)
        have re11 := re10.mono e11
        have ay11 := ay10.mono e11
        have hpg11 := e11 _ _ hpg
        refine ⟨_, rfl, _, rfl, _, rfl, _, rfl, v, y, z, us, t, _, r, q, rfl, re11.a2, ay11, aq, hg, by omega, rq, by omega, hsub, by omega, fun v12 H12 e12 a12 => ?_⟩
        have hwt := wT_stk rq hg hsub
        have hwl := wT_le t hlit
        refine ⟨.ref pu, v12, us, stk q r t, rfl, re11.a1.mono e12, hU, hu2, a12, stk_good rq hg, by rw [len_stk]; omega, by omega, fun bd H13 e13 hbd => ?_⟩
        rw [least_iff hU.ps rq hg hsub] at hbd
        have e1113 := e12.trans e13
        refine ⟨_, rfl, pg, _, 0, _, rfl, rfl, sqT (e1113 _ _ hpg11), atI_nat (j := 0) rfl, hsc.2, _, rfl, ?_⟩
        rw [hI]
        have same : ∀ (bf : Bool) (H14 : Hp), Same H13 H14 → bf = bd → (fun (b : Bool) H => if b = true then (tRet (tC (.bl false))) { nx := fun _ _ => True, rt := Q } [] H else ∃ (z9 z10 : Option V), [some (.ref p), some (.ref pu), some v, some (.ref sm), some (.ref pf), some (.int (((farR us).map V.int).length : Nat)), some (.ref ly), some y, some (.ref pg), some z, some (V.bl bd), none] = [some (.ref p), some (.ref pu), some v, some (.ref sm), some (.ref pf), some (.int (((farR us).map V.int).length : Nat)), some (.ref ly), some y, some (.ref pg), z9, z10, none] ∧ Same H10 H) (!decide (V.bl bf = V.bl bd)) H14 := by
          rintro bf H14 e14 rfl
          rw [decide_eq_true rfl]
          exact iteF ⟨_, _, rfl, e11.trans (e1113.trans e14)⟩
        cases is with
        | false =>
          have hbd2 : bd = false := by
            cases bd with
            | false => rfl
            | true =>
              obtain ⟨l, h1, _⟩ := hbd.mp rfl
              rw [hnone rfl] at h1
              cases h1
          exact iteF ⟨_, rfl, rfl, _, rfl, same false H13 (Same.refl _) hbd2.symm⟩
        | true =>
          obtain ⟨lr, x1, h1, rfl, h3⟩ := hsome rfl
          have rl := hlrow lr h1
          refine iteT ⟨_, rfl, _, rfl, pg, _, 1, _, rfl, rfl, sqT (e1113 _ _ hpg11), atI_nat (j := 1) rfl, _, rfl, .ref pu, x1, z, us, lr, q, rfl, re11.a1.mono e1113, hU, hu2, h3.mono (e11.trans e1113), rl.1, aq.mono e1113, rq, by omega, fun bf H14 e14 hbf => ?_⟩
          refine ⟨_, rfl, rfl, _, rfl, same bf H14 e14 ?_⟩
          rw [serves_iff hU.ps rq rl] at hbf
          rw [Bool.eq_iff_iff, hbf, hbd]
          constructor
          · exact fun z => ⟨lr, h1, z⟩
          · rintro ⟨l2, h4, h5⟩
            rw [h1] at h4
            cases h4
            exact h5
      · rintro σ H11 ⟨z9, z10, rfl, e11⟩
        have re11 := re10.mono e11
        have ay11 := ay10.mono e11
        have hpg11 := e11 _ _ hpg
        have hfr : rowP us.length (dR (farR us)) = true := rowP_of (far_row us).1 fun z hz => by
          unfold farR at hz
          rw [List.mem_replicate] at hz
          rw [hz.2]
          exact ⟨by decide, by decide⟩
        refine ⟨_, rfl, _, rfl, _, rfl, _, rfl, _, rfl, .ref pu, v, y, .ref pf, us, t, ss, sa, un, r, farR us, rfl, re11.a1, hU, re11.a2, hg, by omega, hnf, ay11, hsub, re11.a3, hfr, fun v12 H12 e12 a12 => ?_⟩
        have hfs : Fit (10 ^ 60) (stk (farR us) r t) := fit_mono (by decide) _ (fit_stk (M := 4) (N := 10 ^ 59) (by decide) (fun z hz => by
          unfold farR at hz
          rw [List.mem_replicate] at hz
          rw [hz.2]
          exact ⟨by decide, Int.le_refl _⟩) hfit)
        have hgs := stk_good (far_row us) (p := r) hg
        refine ⟨.ref pu, v12, us, stk (farR us) r t, rfl, re11.a1.mono e12, hU, a12, hgs, by rw [len_stk]; omega, need_fine hU hgs hfs (by rw [len_stk]; omega), fun vb H13 e13 ab => ?_⟩
        cases ab
        have e1113 := e12.trans e13
        refine ⟨_, rfl, pg, _, 0, _, rfl, rfl, sqT (e1113 _ _ hpg11), atI_nat (j := 0) rfl, hsc.2, ?_⟩
        rw [hI]
        refine ⟨_, _, rfl, _, rfl, ?_⟩
        have eqb : (need us (stk (farR us) r t) == zer us) = is := by
          have hi := least_iff hU.ps (far_row us) hg hsub
          cases is with
          | false =>
            rw [beq_eq_false_iff_ne]
            intro z
            obtain ⟨l2, h1, _⟩ := hi.mp z
            rw [hnone rfl] at h1
            cases h1
          | true =>
            obtain ⟨lr, x1, h1, rfl, h3⟩ := hsome rfl
            rw [beq_iff_eq]
            exact hi.mpr ⟨lr, h1, far_ok hU hg hlit (by omega) h1⟩
        rw [eqb, show (is == is) = true by cases is <;> rfl]
        exact iteF ⟨_, _, _, _, rfl, re11.mono e1113⟩
    · rintro σ H8 ⟨y7, y8, y9, y10, rfl, re⟩
      exact k H8 re.tb
end
end K26
set_option Elab.async false
set_option linter.all false
set_option maxRecDepth 100000
set_option maxHeartbeats 4000000
namespace K26
open PySem PySem.Spec PyProof.Rows L2 RZ RT
/-! ## displays -/
inductive DE where
  | int (i : Int)
  | bl (b : Bool)
  | non
  | str (x : Str)
  | var (i : Nat)
  | tup (l : List DE)
  | lst (l : List DE)
mutual
def rdE : DE → TE
  | .int i => tC (.int i)
  | .bl b => tC (.bl b)
  | .non => tC .non
  | .str x => tC (.str x)
  | .var i => tVar i
  | .tup l => tTup (rdEs l)
  | .lst l => tLst (rdEs l)
def rdEs : List DE → TA
  | [] => tNil
  | e :: l => tCons (rdE e) (rdEs l)
end
mutual
def denE (ρ : Nat → PyData) : DE → PyData
  | .int i => .int i
  | .bl b => .bool b
  | .non => .none
  | .str x => .str x
  | .var i => ρ i
  | .tup l => .tuple (denEs ρ l)
  | .lst l => .list (denEs ρ l)
def denEs (ρ : Nat → PyData) : List DE → List PyData
  | [] => []
  | e :: l => denE ρ e :: denEs ρ l
end
mutual
def varsE : DE → List Nat
  | .int _ | .bl _ | .non | .str _ => []
  | .var i => [i]
  | .tup l | .lst l => varsEs l
def varsEs : List DE → List Nat
  | [] => []
  | e :: l => varsE e ++ varsEs l
end
mutual
def shortE : DE → Bool
  | .int _ | .bl _ | .non | .str _ | .var _ => true
  | .tup l | .lst l => decide (l.length ≤ 1000) && shortEs l
def shortEs : List DE → Bool
  | [] => true
  | e :: l => shortE e && shortEs l
end
theorem denEs_len (ρ : Nat → PyData) : ∀ l : List DE, (denEs ρ l).length = l.length
  | [] => rfl
  | e :: l => by simp [denEs, denEs_len ρ l]
mutual
theorem rd_de {σ : L2.St} {ρ : Nat → PyData} : ∀ (e : DE) (H : Hp) (Q : VK), shortE e = true → (∀ i ∈ varsE e, ∃ v, σ[i]? = some (some v) ∧ At H v (ρ i)) → Ret H Q (denE ρ e) → rdE e σ H Q
  | .int i, H, Q, _, _, k => k.go (Same.refl H) (.int i)
  | .bl b, H, Q, _, _, k => k.go (Same.refl H) (.bl b)
  | .non, H, Q, _, _, k => k.go (Same.refl H) .non
  | .str x, H, Q, _, _, k => k.go (Same.refl H) (.str x)
  | .var i, H, Q, _, h, k => by
    obtain ⟨v, h1, h2⟩ := h i (by simp [varsE])
    exact ⟨v, h1, k.go (Same.refl H) h2⟩
  | .tup l, H, Q, hs, h, k => by
    simp only [shortE, Bool.and_eq_true, decide_eq_true_eq] at hs
    refine rd_des l H _ hs.2 h fun vs H1 e1 a1 => ⟨small_ (by rw [a1.len, denEs_len]; omega), fun p hp => k.go (e1.trans (same_new hp)) (.tup upd_same (a1.mono (same_new hp)))⟩
  | .lst l, H, Q, hs, h, k => by
    simp only [shortE, Bool.and_eq_true, decide_eq_true_eq] at hs
    refine rd_des l H _ hs.2 h fun vs H1 e1 a1 => ⟨small_ (by rw [a1.len, denEs_len]; omega), fun p hp => k.go (e1.trans (same_new hp)) (.lst upd_same (a1.mono (same_new hp)))⟩
theorem rd_des {σ : L2.St} {ρ : Nat → PyData} : ∀ (l : List DE) (H : Hp) (Q : List V → Hp → Prop), shortEs l = true → (∀ i ∈ varsEs l, ∃ v, σ[i]? = some (some v) ∧ At H v (ρ i)) → (∀ vs H', Same H H' → AtAll H' vs (denEs ρ l) → Q vs H') → rdEs l σ H Q
  | [], H, Q, _, _, k => k [] H (Same.refl H) .nil
  | e :: l, H, Q, hs, h, k => by
    simp only [shortEs, Bool.and_eq_true] at hs
    refine rd_de e H _ hs.1 (fun i hi => h i (by simp [varsEs, hi])) fun v H1 e1 a1 => ?_
    refine rd_des l H1 _ hs.2 (fun i hi => ?_) fun vs H2 e2 a2 => k _ _ (e1.trans e2) (.cons (a1.mono e2) a2)
    obtain ⟨v, h1, h2⟩ := h i (by simp [varsEs, hi])
    exact ⟨v, h1, h2.mono e1⟩
end
/-! ## a list that holds lists and grows -/
mutual
/-- no list of n items within -/
def noN (n : Nat) : PyData → Bool
  | .none | .bool _ | .int _ | .str _ => true
  | .tuple ds => noNs n ds
  | .list ds => decide (ds.length ≠ n) && noNs n ds
  | .dict _ => false
def noNs (n : Nat) : List PyData → Bool
  | [] => true
  | d :: ds => noN n d && noNs n ds
end
mutual
theorem At.delN {H : Hp} {l : Addr} {zs : List V} (hl : H l = some (.lst zs)) : ∀ {v : V} {d : PyData}, At H v d → noN zs.length d = true → At (del H l) v d
  | _, _, .non, _ => .non
  | _, _, .bl b, _ => .bl b
  | _, _, .int i, _ => .int i
  | _, _, .str x, _ => .str x
  | _, _, .lst (a := a) (xs := xs) (ds := ds) e k, h => by
    rw [noN, Bool.and_eq_true, decide_eq_true_eq] at h
    refine .lst ?_ (AtAll.delN hl k h.2)
    rw [del_ne (fun z => ?_)]
    · exact e
    · subst z
      rw [hl] at e
      cases e
      exact h.1 k.len.symm
  | _, _, .tup (a := a) (xs := xs) e k, h => by
    rw [noN] at h
    refine .tup ?_ (AtAll.delN hl k h)
    rw [del_ne (fun z => by rw [z, hl] at e; cases e)]
    exact e
theorem AtAll.delN {H : Hp} {l : Addr} {zs : List V} (hl : H l = some (.lst zs)) : ∀ {vs : List V} {ds : List PyData}, AtAll H vs ds → noNs zs.length ds = true → AtAll (del H l) vs ds
  | _, _, .nil, _ => .nil
  | _, _, .cons h k, e => by
    rw [noNs, Bool.and_eq_true] at e
    exact .cons (At.delN hl h e.1) (AtAll.delN hl k e.2)
end
theorem ext_del {H H' : Hp} {l : Addr} (e : LamX.ExtN H H') : LamX.ExtN (del H l) (del H' l) := fun b o h n => by
  by_cases z : b = l
  · rw [z, del_same] at h; cases h
  · rw [del_ne z] at h ⊢; exact e b o h n
/-! ## what by_hand asks, computed -/
def t1 : Tr := .nd [1, 0] [0, 1] [.nd [0, 1] [0, 4] [], .nd [0, 0] [0, 1] []]
def t2 : Tr := .nd [0] [10 ^ 60] [.nd [10 ^ 60] [1] []]
def lone : PyData := .tuple [dR [0, 0], dR [0, 0], .tuple []]
def v2 : PyData := .tuple [dR [0, 0], dR [0, 0], .tuple (List.replicate 8 lone)]
def v3 : PyData := .tuple [.int 5, .int 5, .tuple []]
def v4 : PyData := .tuple [dR [0, 0], dR [0, 0], .tuple [lone, .tuple [dR [0, 0], .tuple [.int 0, .bool true], .tuple []]]]
def v5 : PyData := .tuple [dR [0, 0], dR [0, 0], .tuple (.int 5 :: List.replicate 9 lone)]
def wrong : List PyData := [dR [2], dR [2, 2], dR [1, 0], .list [.int 2, .int 0], .tuple [.int 2, .bool true], .none]
theorem n1 : needTreeP (dR [2]) (trD t1) = .ok (trD t1) := by kernel_rfl
theorem n2 : needTreeP (dR []) (trD t2) = .ok (trD t2) := by kernel_rfl
theorem c1 : leastP [2] t1 (dR []) = .ok (dR [0, 3]) := by kernel_rfl
theorem c2 : leastP [2] t1 (dR [2, 0]) = .ok (dR [0, 3]) := by kernel_rfl
theorem c3 : leastP [2] t1 (dR [2, 1]) = .lack := by kernel_rfl
theorem c4 : leastP [] t2 (dR [2, 0]) = .lack := by kernel_rfl
theorem c5 : leastP [] t2 (dR []) = .ok (dR [10 ^ 60]) := by kernel_rfl
theorem c6 : wrong.map (leastP [2] t1) = wrong.map Out.index := by kernel_rfl
theorem d1 : needTreeP (dR [3, 1]) .none = .units (dR [3, 1]) := by kernel_rfl
theorem d2 : needTreeP (dR [2]) v2 = .great := by kernel_rfl
theorem d3 : needTreeP (dR [2]) v3 = .tree (dR []) := by kernel_rfl
theorem d4 : needTreeP (dR [2]) v4 = .tree (dR [2, 1]) := by kernel_rfl
theorem d5 : needTreeP (dR [2]) v5 = .tree (dR [2, 0]) := by kernel_rfl
def gots : List PyData := [hearD (.ok (dR [0, 3])), hearD (.ok (dR [0, 3])), hearD .lack, hearD .lack, hearD (.ok (dR [10 ^ 60]))] ++ wrong.map fun d => hearD (.index d)
theorem s1 : (PyData.list gots).showable = true := by decide +kernel
theorem s2 : (PyData.list gots).hasDict = false := by decide +kernel
theorem s3 : (PyData.list gots).depth ≤ 60 := by decide +kernel
theorem s4 : (PyData.list gots).shown.length ≤ 100000 := by decide +kernel
end K26
set_option Elab.async false
set_option linter.all false
set_option maxRecDepth 100000
set_option maxHeartbeats 4000000
namespace K26
open PySem PySem.Spec PyProof.Rows L2 RZ RT
/-! ## by_hand: steps -/
mutual
theorem noN_of {n : Nat} : ∀ d : PyData, noL d = true → noN n d = true
  | .none, _ | .bool _, _ | .int _, _ | .str _, _ => rfl
  | .tuple ds, h => by
    rw [noL] at h
    rw [noN]
    exact noNs_of ds h
  | .list _, h | .dict _, h => by simp [noL] at h
theorem noNs_of {n : Nat} : ∀ ds : List PyData, noLs ds = true → noNs n ds = true
  | [], _ => rfl
  | d :: ds, h => by
    rw [noLs, Bool.and_eq_true] at h
    rw [noNs, noN_of d h.1, noNs_of ds h.2]
    rfl
end
/-- the call of heard with a lambda, in by_hand -/
theorem hear_step {A : XA} {T : List (Addr × Str)} {σ : L2.St} {ρ : Nat → PyData} {H : Hp} {Q : VK} {U d dp : PyData} {o : Out} (l : List DE) (tb : LamX.Tabs T H) (hs : shortEs l = true) (hv : ∀ i ∈ varsEs l, ∃ v, σ[i]? = some (some v) ∧ At H v (ρ i)) (hd : denEs ρ l = [U, d, dp])
    (hc : d.canLay0 = true) (hdp : ∀ ds, dp = .tuple ds → ds.length ≤ 1000) (hrow : ∀ e, o ≠ .row e)
    (ho : (needTreeP U d = o ∧ ∀ e, o ≠ .ok e) ∨ ∃ us t, U = dR us ∧ Us us ∧ d = trD t ∧ Good us t ∧ (ysT t []).length ≤ 400 ∧ needTreeP (dR us) (trD t) = .ok (trD t) ∧ leastP us t dp = o)
    (k : ∀ v H2, LamX.ExtN H H2 → LamX.Tabs T H2 → At H2 v (hearD o) → Q v H2) : LamX.tLam T (TTh A) (fun E => tCall (spLeast A) [] E (rdEs l)) σ H Q := by
  refine ⟨tb, fun H1 eN tb1 => ?_⟩
  refine rd_des (ρ := ρ) l H1 _ hs (fun i hi => ?_) fun vs H2 e2 a2 => ?_
  · obtain ⟨v, h1, h2⟩ := hv i hi
    exact ⟨v, h1, h2.ext eN⟩
  · rw [hd] at a2
    match vs, a2 with
    | [x, y, z], .cons b1 (.cons b2 (.cons b3 .nil)) =>
      have fin : Ret H2 Q (hearD o) := fun v H3 e3 a3 => k v H3 (eN.trans (.of (e2.trans e3))) (tb1.ext (e2.trans e3)) a3
      refine ⟨x, y, z, U, d, dp, rfl, b1, b2, b3, hc, hdp, ?_⟩
      rcases ho with ⟨h1, h2⟩ | ⟨us, t, h1, h2, h3, h4, h5, h6, h7⟩
      · exact .inl ⟨by rw [h1]; exact h2, by rw [h1]; exact hear_go hrow fin⟩
      · exact .inr ⟨us, t, h1, h2, h3, h4, h5, h6, by rw [h7]; exact hear_go hrow fin⟩
theorem tabs_upd {T : List (Addr × Str)} {H : Hp} {l : Addr} {zs : List V} {o : HO} (t : LamX.Tabs T H) (h : H l = some (.lst zs)) : LamX.Tabs T (upd H l o) := fun q hq => by
  obtain ⟨ps, h1, h2, h3⟩ := t q hq
  refine ⟨ps, by rw [upd_ne (ne_of h1 h (fun z => by cases z))]; exact h1, h2, fun pos cv hc => ?_⟩
  obtain ⟨c', e1, e2⟩ := h3 pos cv hc
  refine ⟨c', e1, ?_⟩
  rw [upd_ne (ne_of e2 h (fun z => ?_))]
  · exact e2
  · have z' : HO.ext _ = HO.lst _ := z
    cases z'
/-- a list that grows, what stands beside it -/
structure BE (T : List (Addr × Str)) (lg : Addr) (zs : List V) (ds : List PyData) (tv zv : V) (H : Hp) : Prop where
  g1 : H lg = some (.lst zs)
  g2 : AtAll (del H lg) zs ds
  tr : At (del H lg) tv (trD t1)
  zr : At (del H lg) zv (dR [0, 0])
  tb : LamX.Tabs T H
theorem BE.ext {T : List (Addr × Str)} {lg : Addr} {zs : List V} {ds : List PyData} {tv zv : V} {H H' : Hp} (b : BE T lg zs ds tv zv H) (e : LamX.ExtN H H') (t : LamX.Tabs T H') : BE T lg zs ds tv zv H' :=
  ⟨e _ _ b.g1 (fun _ z => by cases z), b.g2.ext (ext_del e), b.tr.ext (ext_del e), b.zr.ext (ext_del e), t⟩
theorem BE.mono {T : List (Addr × Str)} {lg : Addr} {zs : List V} {ds : List PyData} {tv zv : V} {H H' : Hp} (b : BE T lg zs ds tv zv H) (e : Same H H') : BE T lg zs ds tv zv H' := b.ext (.of e) (b.tb.ext e)
theorem BE.app {T : List (Addr × Str)} {lg : Addr} {zs : List V} {ds : List PyData} {tv zv y : V} {d : PyData} {H : Hp} (b : BE T lg zs ds tv zv H) (h : At H y d) (n : noN zs.length d = true) : BE T lg (zs ++ [y]) (ds ++ [d]) tv zv (upd H lg (.lst (zs ++ [y]))) := by
  refine ⟨upd_same, ?_, ?_, ?_, tabs_upd b.tb b.g1⟩
  · rw [del_upd]
    exact b.g2.app (AtAll.one (h.delN b.g1 n))
  · rw [del_upd]; exact b.tr
  · rw [del_upd]; exact b.zr
theorem rep_all {H : Hp} {x : V} {d : PyData} (h : At H x d) : ∀ n : Nat, AtAll H (List.replicate n [x]).flatten (List.replicate n d)
  | 0 => .nil
  | n + 1 => by
    rw [List.replicate_succ, List.flatten_cons, List.replicate_succ]
    exact .cons h (rep_all h n)
/-- t * n, t of one item -/
theorem rep_tup {K : PySem.W.Frag} {H : Hp} {Q : VK} {a : Addr} {x : V} {d : PyData} {n : Nat} (h : H a = some (.tup [x])) (hx : At H x d) (h1 : 2 ≤ n) (h2 : n ≤ 1000) (q : Ret H Q (.tuple (List.replicate n d))) : rRepQ K (.ref a) (.int (n : Int)) H Q := by
  refine ⟨a, _, _, rfl, rfl, sqT h, by simp, by omega, by omega, by simp, fun e => by omega, fun e m hm => ?_⟩
  refine q.go (same_new hm) (.tup upd_same ?_)
  rw [show ((n : Int)).toNat = n by omega]
  exact rep_all (hx.mono (same_new hm)) n
end K26
set_option Elab.async false
set_option linter.all false
set_option maxRecDepth 100000
set_option maxHeartbeats 4000000
namespace K26
open PySem PySem.Spec PyProof.Rows L2 RZ RT
/-! ## by_hand: the walk -/
theorem us2 : Us [2] := ⟨by decide, by decide⟩
theorem us0 : Us [] := ⟨by decide, by simp⟩
theorem g1 : Good [2] t1 := by simp [t1, Good, GoodAll, Row, Nn]
theorem g2 : Good [] t2 := by simp [t2, Good, GoodAll, Row, Nn]
theorem z1 : (ysT t1 []).length ≤ 400 := by decide +kernel
theorem z2 : (ysT t2 []).length ≤ 400 := by decide +kernel
theorem canLay_row (l : List Int) : (dR l).canLay0 = true := canLay_dR l
theorem ext_undel {H : Hp} {l : Addr} : LamX.ExtN (del H l) H := fun b o h n => by
  by_cases z : b = l
  · rw [z, del_same] at h; cases h
  · rw [del_ne z] at h; exact h
theorem ext_fresh {H : Hp} {l : Addr} (h : H l = none) : LamX.ExtN H (del H l) := fun b o hb n => by
  rw [del_ne (fun z => by rw [z, h] at hb; cases hb)]
  exact hb
theorem seq_de {te : TE} (e : DE) (he : te = rdE e) {ρ : Nat → PyData} {g : TG} {r : TS} {D : Ends} {σ : L2.St} {H : Hp} (hs : shortE e = true) (hv : ∀ i ∈ varsE e, ∃ v, σ[i]? = some (some v) ∧ At H v (ρ i))
    (k : ∀ v H', Same H H' → At H' v (denE ρ e) → g v σ H' (r D)) : tSeq (tAsg te g) r D σ H := by
  subst he
  exact rd_de e _ _ hs hv fun v H' e a => k v H' e a
theorem hear_app {A : XA} {K : PySem.W.Frag} {T : List (Addr × Str)} {σ : L2.St} {ρ : Nat → PyData} {H : Hp} {D : Ends} {ta : TA} {U d dp : PyData} {o : Out} {i : Nat} {lg : Addr} {zs : List V} {ds : List PyData} {tv zv : V} (l : List DE) (he : ta = rdEs l) (b : BE T lg zs ds tv zv H) (hi : σ[i]? = some (some (.ref lg))) (hz : zs.length < 100)
    (hs : shortEs l = true) (hv : ∀ i ∈ varsEs l, ∃ v, σ[i]? = some (some v) ∧ At H v (ρ i)) (hd : denEs ρ l = [U, d, dp])
    (hc : d.canLay0 = true) (hdp : ∀ ds, dp = .tuple ds → ds.length ≤ 1000) (hrow : ∀ e, o ≠ .row e)
    (ho : (needTreeP U d = o ∧ ∀ e, o ≠ .ok e) ∨ ∃ us t, U = dR us ∧ Us us ∧ d = trD t ∧ Good us t ∧ (ysT t []).length ≤ 400 ∧ needTreeP (dR us) (trD t) = .ok (trD t) ∧ leastP us t dp = o)
    (hn : noN zs.length (hearD o) = true) (k : ∀ y H', BE T lg (zs ++ [y]) (ds ++ [hearD o]) tv zv H' → LamX.ExtN (del H lg) (del H' lg) → D.nx σ H') :
    tDrop (tBM K "list" rAppend (tVar i) (tCons (LamX.tLam T (TTh A) (fun E => tCall (spLeast A) [] E ta)) tNil)) D σ H := by
  subst he
  refine ⟨.ref lg, hi, .inl ⟨rfl, _, sqL b.g1⟩, ?_⟩
  refine hear_step l b.tb hs hv hd hc hdp hrow ho fun v H2 e2 t2 a2 => ?_
  have b2 := b.ext e2 t2
  refine ⟨lg, _, _, rfl, rfl, b2.g1, Nat.lt_of_lt_of_le hz (by decide), ?_⟩
  refine k v _ (b2.app a2 hn) ?_
  rw [del_upd]
  exact ext_del e2
theorem seq_hear {A : XA} {K : PySem.W.Frag} {T : List (Addr × Str)} {σ : L2.St} {ρ : Nat → PyData} {H : Hp} {D : Ends} {r : TS} {ta : TA} {U d dp : PyData} {o : Out} {i : Nat} {lg : Addr} {zs : List V} {ds : List PyData} {tv zv : V} (l : List DE) (he : ta = rdEs l) (b : BE T lg zs ds tv zv H) (hi : σ[i]? = some (some (.ref lg))) (hz : zs.length < 100)
    (hs : shortEs l = true) (hv : ∀ i ∈ varsEs l, ∃ v, σ[i]? = some (some v) ∧ At H v (ρ i)) (hd : denEs ρ l = [U, d, dp])
    (hc : d.canLay0 = true) (hdp : ∀ ds, dp = .tuple ds → ds.length ≤ 1000) (hrow : ∀ e, o ≠ .row e)
    (ho : (needTreeP U d = o ∧ ∀ e, o ≠ .ok e) ∨ ∃ us t, U = dR us ∧ Us us ∧ d = trD t ∧ Good us t ∧ (ysT t []).length ≤ 400 ∧ needTreeP (dR us) (trD t) = .ok (trD t) ∧ leastP us t dp = o)
    (hn : noN zs.length (hearD o) = true) (k : ∀ y H', BE T lg (zs ++ [y]) (ds ++ [hearD o]) tv zv H' → LamX.ExtN (del H lg) (del H' lg) → r D σ H') :
    tSeq (tDrop (tBM K "list" rAppend (tVar i) (tCons (LamX.tLam T (TTh A) (fun E => tCall (spLeast A) [] E ta)) tNil))) r D σ H :=
  hear_app (D := { D with nx := r D }) l he b hi hz hs hv hd hc hdp hrow ho hn k
theorem seq_forT {K : PySem.W.Frag} {te : TE} (l : List DE) (he : te = rdE (.tup l)) {ρ : Nat → PyData} {g : TG} {tb r : TS} {D : Ends} {σ : L2.St} {H : Hp} {ds : List PyData} (hd : denEs ρ l = ds) (hs : shortE (.tup l) = true) (hv : ∀ i ∈ varsE (.tup l), ∃ v, σ[i]? = some (some v) ∧ At H v (ρ i))
    (Pv : Addr → List V → Nat → L2.St → Hp → Prop) (h0 : ∀ pp ps H1, Same H H1 → H1 pp = some (.tup ps) → AtAll H1 ps ds → Pv pp ps 0 σ H1) (hG : ∀ pp ps i σ H, Pv pp ps i σ H → H pp = some (.tup ps))
    (ht : ∀ pp ps i x σ H, i < ds.length → Pv pp ps i σ H → ps[i]? = some x → g x σ H fun σ2 H2 => tb { D with nx := Pv pp ps (i + 1), ct := Pv pp ps (i + 1), bk := r D } σ2 H2)
    (hr : ∀ pp ps σ H, Pv pp ps ds.length σ H → r D σ H) : tSeq (tFor (iTup K te) g tb) r D σ H := by
  subst he
  unfold tSeq tFor iTup
  refine rd_de (.tup l) H _ hs hv fun v H1 e1 a1 => ?_
  rw [denE, hd] at a1
  obtain ⟨pp, ps, rfl, hpp, hps⟩ := a1.of_tup
  refine ⟨pp, rfl, ⟨ps, sqT hpp⟩, ?_⟩
  have lp := hps.len
  refine for_it (D := { D with nx := r D }) (walk_tup (xs := ps)) (Pv pp ps) (h0 pp ps H1 e1 hpp hps) (fun i σ H _ h => sqT (hG _ _ _ _ _ h)) ?_ (fun σ H h => hr pp ps σ H (by rw [← lp]; exact h))
  rintro i y σ2 H2 H3 hi h hY
  obtain ⟨rfl, hy⟩ := hY
  exact ht pp ps i y σ2 _ (by omega) h hy
theorem lc_tag {K : PySem.W.Frag} {te0 : TE} {x : Str} (l : List DE) (he : te0 = rdE (.tup l)) {ρ : Nat → PyData} {ds : List PyData} (hd : denEs ρ l = ds) (hl : ds.length < 100) (hs : shortE (.tup l) = true) {i : Nat} {vs : List Nat} {σ : L2.St} {H : Hp} {Q : VK} (hv : ∀ i ∈ varsE (.tup l), ∃ v, σ[i]? = some (some v) ∧ At H v (ρ i))
    (hw : ∀ x, wipe ((wipe σ vs).set i (some x)) vs = wipe σ vs) (hi : ∀ x, ((wipe σ vs).set i (some x))[i]? = some (some x))
    (k : ∀ D zs H', Same H H' → H' D = some (.lst zs) → AtAll H' zs (ds.map fun d => .tuple [.str x, d, .bool true]) → Q (.ref D) H') :
    tLc (iTup K te0) (gName i) tYes (tTup (tCons (tC (.str x)) (tCons (tVar i) (tCons (tC (.bl true)) tNil)))) vs σ H Q := by
  subst he
  unfold tLc iTup
  refine rd_de (.tup l) H _ hs hv fun v H1 e1 a1 => ?_
  rw [denE, hd] at a1
  obtain ⟨pp, ps, rfl, hpp, hps⟩ := a1.of_tup
  refine ⟨pp, rfl, ⟨ps, sqT hpp⟩, fun D hD => ?_⟩
  have lp := hps.len
  refine lc_it (walk_tup (xs := ps)) (fun j H' => ∃ zs, Same H1 H' ∧ H' D = some (.lst zs) ∧ AtAll (del H' D) ps ds ∧ AtAll (del H' D) zs ((ds.take j).map fun d => .tuple [.str x, d, .bool true])) ⟨[], same_new hD, upd_same, ?_, by rw [List.take_zero]; exact .nil⟩ (fun _ H' _ h => ?_) ?_ ?_
  · rw [del_upd]; exact hps.ext (ext_fresh hD)
  · obtain ⟨_, e, _⟩ := h
    exact sqT (e _ _ hpp)
  · rintro j y H2 H3 hj ⟨zs, e, hz, hp, hzs⟩ hY
    obtain ⟨rfl, hy⟩ := hY
    obtain ⟨d, hd1, ad⟩ := hp.getv hy
    refine ⟨hw _, yes_if ⟨y, hi y, small_ (by simp), fun t ht => ?_⟩⟩
    have ed : t ≠ D := fun z => by rw [z, hz] at ht; cases ht
    have lz := hzs.len
    rw [List.length_map, List.length_take] at lz
    have en := LamX.ExtN.of (same_new (o := .tup [.str x, y, .bl true]) ht)
    refine ⟨zs, by rw [upd_ne (Ne.symm ed)]; exact hz, small' (by omega), zs ++ [.ref t], same_mut (e.trans (same_new ht)) hD, upd_same, ?_, ?_⟩
    · rw [del_upd]; exact hp.ext (ext_del en)
    · rw [del_upd, List.take_succ, hd1, List.map_append]
      exact (hzs.ext (ext_del en)).app (AtAll.one (.tup (by rw [del_ne ed]; exact upd_same) (.cons (.str x) (.cons (ad.ext (ext_del en)) (.cons (.bl true) .nil)))))
  · rintro H' ⟨zs, e, hz, hp, hzs⟩
    rw [lp, List.take_length] at hzs
    exact k D zs H' (e1.trans e) hz (hzs.ext ext_undel)
theorem if_no {b : Bool} {X Y : Prop} (h : b = false) (y : Y) : if b = true then X else Y := by subst h; exact y
theorem rep_c {K : PySem.W.Frag} {σ : L2.St} {H : Hp} {Q : VK} {a : Addr} {x : V} {d : PyData} {n : Nat} {i : Int} (hi : i = (n : Int)) (h : H a = some (.tup [x])) (hx : At H x d) (h1 : 2 ≤ n) (h2 : n ≤ 1000) (q : Ret H Q (.tuple (List.replicate n d))) : tC (.int i) σ H fun y H2 => rRepQ K (.ref a) y H2 Q := by
  subst hi
  exact rep_tup h hx h1 h2 q
theorem seq_par {ta : TA} {e1 e2 : DE} (he : ta = rdEs [e1, e2]) {ρ : Nat → PyData} {i j : Nat} {r : TS} {D : Ends} {σ : L2.St} {H : Hp} (hs : shortEs [e1, e2] = true) (hv : ∀ i ∈ varsEs [e1, e2], ∃ v, σ[i]? = some (some v) ∧ At H v (ρ i))
    (k : ∀ v w H', Same H H' → At H' v (denE ρ e1) → At H' w (denE ρ e2) → r D ((σ.set i (some v)).set j (some w)) H') : tSeq (tPar i j ta) r D σ H := by
  subst he
  unfold tSeq tPar
  refine rd_des [e1, e2] H _ hs hv fun vs H' e a => ?_
  match vs, a with
  | [x, y], .cons b1 (.cons b2 .nil) => exact ⟨x, y, rfl, k x y H' e b1 b2⟩
theorem seq_app {K : PySem.W.Frag} {te : TE} (e : DE) (he : te = rdE e) {ρ : Nat → PyData} {i : Nat} {r : TS} {D : Ends} {σ : L2.St} {H : Hp} {l : Addr} {zs : List V} (hi : σ[i]? = some (some (.ref l))) (hl : H l = some (.lst zs)) (hz : zs.length < 100)
    (hs : shortE e = true) (hv : ∀ i ∈ varsE e, ∃ v, σ[i]? = some (some v) ∧ At H v (ρ i)) (k : ∀ v H', Same H H' → At H' v (denE ρ e) → r D σ (upd H' l (.lst (zs ++ [v])))) : tSeq (tDrop (tBM K "list" rAppend (tVar i) (tCons te tNil))) r D σ H := by
  subst he
  refine ⟨.ref l, hi, .inl ⟨rfl, _, sqL hl⟩, ?_⟩
  unfold tCons
  refine rd_de e H _ hs hv fun v H' e a => ?_
  exact ⟨l, _, _, rfl, rfl, e _ _ hl, Nat.lt_of_lt_of_le hz (by decide), k v H' e a⟩
/-- by_hand's second part: what is asked, the list of answers -/
structure FE (T : List (Addr × Str)) (la lq : Addr) (zs qs : List V) (ds : List PyData) (zv lv : V) (H : Hp) : Prop where
  ha : H la = some (.lst zs)
  hq : H lq = some (.lst qs)
  hne : la ≠ lq
  zs : AtAll H zs ds
  no : noLs ds = true
  zr : At H zv (dR [0, 0])
  lo : At H lv lone
  tb : LamX.Tabs T H
theorem FE.ext {T : List (Addr × Str)} {la lq : Addr} {zs qs : List V} {ds : List PyData} {zv lv : V} {H H' : Hp} (b : FE T la lq zs qs ds zv lv H) (e : LamX.ExtN H H') (t : LamX.Tabs T H') : FE T la lq zs qs ds zv lv H' :=
  ⟨e _ _ b.ha (fun _ z => by cases z), e _ _ b.hq (fun _ z => by cases z), b.hne, b.zs.ext e, b.no, b.zr.ext e, b.lo.ext e, t⟩
theorem FE.mono {T : List (Addr × Str)} {la lq : Addr} {zs qs : List V} {ds : List PyData} {zv lv : V} {H H' : Hp} (b : FE T la lq zs qs ds zv lv H) (e : Same H H') : FE T la lq zs qs ds zv lv H' := b.ext (.of e) (b.tb.ext e)
theorem noLs_mem : ∀ {ds : List PyData}, noLs ds = true → ∀ d ∈ ds, noL d = true
  | d :: ds, h, x, hx => by
    rw [noLs, Bool.and_eq_true] at h
    rcases List.mem_cons.mp hx with rfl | hx
    · exact h.1
    · exact noLs_mem h.2 x hx
theorem FE.app {T : List (Addr × Str)} {la lq : Addr} {zs qs : List V} {ds : List PyData} {zv lv y : V} {d : PyData} {H : Hp} (b : FE T la lq zs qs ds zv lv H) (h : At H y d) (n : noL d = true) : FE T la lq (zs ++ [y]) qs (ds ++ [d]) zv lv (upd H la (.lst (zs ++ [y]))) := by
  have nt := nt_lst b.ha
  refine ⟨upd_same, by rw [upd_ne (Ne.symm b.hne)]; exact b.hq, b.hne, (b.zs.mut nt b.no).app (AtAll.one (h.mut nt n)), ?_, b.zr.mut nt rfl, b.lo.mut nt rfl, tabs_upd b.tb b.ha⟩
  refine noLs_all fun x hx => ?_
  rcases List.mem_append.mp hx with hx | hx
  · exact noLs_mem b.no x hx
  · rw [List.mem_singleton] at hx
    subst hx
    exact n
theorem FE.ans {T : List (Addr × Str)} {la lq : Addr} {zs qs : List V} {ds : List PyData} {zv lv : V} {c : Bool} {H : Hp} (b : FE T la lq zs qs ds zv lv H) : FE T la lq zs (qs ++ [.bl c]) ds zv lv (upd H lq (.lst (qs ++ [.bl c]))) := by
  have nt := nt_lst b.hq
  exact ⟨by rw [upd_ne b.hne]; exact b.ha, upd_same, b.hne, b.zs.mut nt b.no, b.no, b.zr.mut nt rfl, b.lo.mut nt rfl, tabs_upd b.tb b.hq⟩
def askT : List (PyData × PyData × Out) := [(dR [3, 1], .none, .units (dR [3, 1])), (dR [2], v2, .great), (dR [2], v3, .tree (dR [])), (dR [2], v4, .tree (dR [2, 1])), (dR [2], v5, .tree (dR [2, 0]))]
def askD (x : PyData × PyData × Out) : PyData := .tuple [x.1, x.2.1, hearD x.2.2]
theorem ask_ok : ∀ x ∈ askT, needTreeP x.1 x.2.1 = x.2.2 ∧ (∀ e, x.2.2 ≠ .ok e) ∧ (∀ e, x.2.2 ≠ .row e) ∧ x.2.1.canLay0 = true ∧ ((hearD x.2.2).showable = true ∧ (hearD x.2.2).hasDict = false ∧ (hearD x.2.2).depth ≤ 60 ∧ (hearD x.2.2).shown.length ≤ 100000) := by
  intro x hx
  simp only [askT, List.mem_cons, List.not_mem_nil, or_false] at hx
  rcases hx with h | h | h | h | h <;> subst h
  · exact ⟨d1, (fun _ e => by cases e), (fun _ e => by cases e), by decide +kernel, by decide +kernel⟩
  · exact ⟨d2, (fun _ e => by cases e), (fun _ e => by cases e), by decide +kernel, by decide +kernel⟩
  · exact ⟨d3, (fun _ e => by cases e), (fun _ e => by cases e), by decide +kernel, by decide +kernel⟩
  · exact ⟨d4, (fun _ e => by cases e), (fun _ e => by cases e), by decide +kernel, by decide +kernel⟩
  · exact ⟨d5, (fun _ e => by cases e), (fun _ e => by cases e), by decide +kernel, by decide +kernel⟩
def TT2 (PR PB : Addr) : List (Addr × Str) := [(PR, qR), (PB, qB)]
def spHand (T : List (Addr × Str)) : Sp := fun vs H Q _ => vs = [] ∧ LamX.Tabs T H ∧ ∀ H', Q (.bl true) H'
def dPaths : DE := .tup [.tup [.int 2], .tup [.int 2, .int 2], .tup [.int 1, .int 0], .lst [.int 2, .int 0], .tup [.int 2, .bl true], .non]
section
variable {P : Program} {w : World} {K : PySem.W.Frag} {mg : Str → Option Value} {base : Heap} {f fH : Addr} {fd fdH : FuncData} {A : XA} {CY PR PB c0 : Addr}
theorem sc_law_by_hand : FnScope ["_law_top", "_law_zeros_so", "_law_tree_so", "_law_got", "_law_path", "_law_due", "_law_lone", "_law_nine", "_law_asked", "_law_units_so", "_law_value"] [] (defScope (top 67)) := ⟨rfl, rfl, rfl, by decide +kernel, rfl, by decide +kernel, by decide +kernel⟩
set_option maxHeartbeats 8000000 in
theorem ok_law_by_hand (B : Bi mg) (D : Hd K mg A CY) (hPQ : PR ≠ PB) (hc0 : fd.code = .ref c0) (TB : LamX.TabB base mg c0 PB)
    (FH : FnP K "_law_heard" (top 64) fH fdH) (mH : mg "_law_heard" = some (.ref fH)) (kH : PySem.W.keepIn K (.ref fH) = true) (bH : Binds K fdH ["_law_call"] [])
    (C_least_added : Cal P w K mg base (L2.CX P w) 5 "least_added" ["units", "tree", "path"] (spLeast A)) (C_law_like : CalG P w K mg base 1 "_law_like" ["_law_got", "_law_due"] spLikeD)
    (F : FnP K "_law_by_hand" (top 67) f fd) : FnOkG P w K mg base 9 f fd [] (spHand (TT2 PR PB)) := by
  obtain ⟨oc, od, dV, kV, doc, pm, an, cdvH, ct, osl, rfl, lkH, hcH, _, _⟩ := FH.ex
  refine okG F sc_law_by_hand (fun vs H Q E h => by rw [h.1]; rfl) (fun cdv A' outer s0 H vs Q E hcd hr hG h => ?_)
  obtain rfl : cdv = .ref c0 := hcd.symm.trans hc0
  obtain ⟨rfl, tb, k⟩ := h
  have HM : (PB, qB) ∈ TT2 PR PB := List.mem_cons_of_mem _ List.mem_cons_self
  have HU : ∀ q ∈ TT2 PR PB, q.1 = PB → q.2 = qB := fun q hq e => by
    rcases List.mem_cons.mp hq with rfl | hq
    · exact absurd e hPQ
    · rw [List.mem_singleton] at hq
      rw [hq]
  refine ⟨(tSeq (tAsg (tTup (tCons (tOp (rI CPow fun i j => .int (i ^ j.toNat)) (tC (.int 10)) (tC (.int 60))) (tCons (tTup (tCons (tC (.int 0)) (tCons (tC (.int 0)) tNil))) tNil))) (gTup K 2 (gCons (gName 0) (gCons (gName 1) gNil))))
  (tSeq (tAsg (tTup (tCons (tTup (tCons (tC (.int 1)) (tCons (tC (.int 0)) tNil))) (tCons (tTup (tCons (tC (.int 0)) (tCons (tC (.int 1)) tNil))) (tCons (tTup (tCons (tTup (tCons (tTup (tCons (tC (.int 0)) (tCons (tC (.int 1)) tNil))) (tCons (tTup (tCons (tC (.int 0)) (tCons (tC (.int 4)) tNil))) (tCons (tTup tNil) tNil)))) (tCons (tTup (tCons (tVar 1) (tCons (tTup (tCons (tC (.int 0)) (tCons (tC (.int 1)) tNil))) (tCons (tTup tNil) tNil)))) tNil))) tNil)))) (gName 2))
  (tSeq (tAsg (tLst (tCons (LamX.tLam (TT2 PR PB) (TTh A) fun E => (tCall (spLeast A) [] E (tCons (tTup (tCons (tC (.int 2)) tNil)) (tCons (tVar 2) (tCons (tTup tNil) tNil))))) tNil)) (gName 3))
  (tSeq (tDrop (tBM K "list" rAppend (tVar 3) (tCons (LamX.tLam (TT2 PR PB) (TTh A) fun E => (tCall (spLeast A) [] E (tCons (tTup (tCons (tC (.int 2)) tNil)) (tCons (tVar 2) (tCons (tTup (tCons (tC (.int 2)) (tCons (tC (.int 0)) tNil))) tNil))))) tNil)))
  (tSeq (tDrop (tBM K "list" rAppend (tVar 3) (tCons (LamX.tLam (TT2 PR PB) (TTh A) fun E => (tCall (spLeast A) [] E (tCons (tTup (tCons (tC (.int 2)) tNil)) (tCons (tVar 2) (tCons (tTup (tCons (tC (.int 2)) (tCons (tC (.int 1)) tNil))) tNil))))) tNil)))
  (tSeq (tDrop (tBM K "list" rAppend (tVar 3) (tCons (LamX.tLam (TT2 PR PB) (TTh A) fun E => (tCall (spLeast A) [] E (tCons (tTup tNil) (tCons (tTup (tCons (tTup (tCons (tC (.int 0)) tNil)) (tCons (tTup (tCons (tVar 0) tNil)) (tCons (tTup (tCons (tTup (tCons (tTup (tCons (tVar 0) tNil)) (tCons (tTup (tCons (tC (.int 1)) tNil)) (tCons (tTup tNil) tNil)))) tNil)) tNil)))) (tCons (tTup (tCons (tC (.int 2)) (tCons (tC (.int 0)) tNil))) tNil))))) tNil)))
  (tSeq (tDrop (tBM K "list" rAppend (tVar 3) (tCons (LamX.tLam (TT2 PR PB) (TTh A) fun E => (tCall (spLeast A) [] E (tCons (tTup tNil) (tCons (tTup (tCons (tTup (tCons (tC (.int 0)) tNil)) (tCons (tTup (tCons (tVar 0) tNil)) (tCons (tTup (tCons (tTup (tCons (tTup (tCons (tVar 0) tNil)) (tCons (tTup (tCons (tC (.int 1)) tNil)) (tCons (tTup tNil) tNil)))) tNil)) tNil)))) (tCons (tTup tNil) tNil))))) tNil)))
  (tSeq (tFor (iTup K (tTup (tCons (tTup (tCons (tC (.int 2)) tNil)) (tCons (tTup (tCons (tC (.int 2)) (tCons (tC (.int 2)) tNil))) (tCons (tTup (tCons (tC (.int 1)) (tCons (tC (.int 0)) tNil))) (tCons (tLst (tCons (tC (.int 2)) (tCons (tC (.int 0)) tNil))) (tCons (tTup (tCons (tC (.int 2)) (tCons (tC (.bl true)) tNil))) (tCons (tC .non) tNil)))))))) (gName 4) (tDrop (tBM K "list" rAppend (tVar 3) (tCons (LamX.tLam (TT2 PR PB) (TTh A) fun E => (tCall (spLeast A) [] E (tCons (tTup (tCons (tC (.int 2)) tNil)) (tCons (tVar 2) (tCons (tVar 4) tNil))))) tNil))))
  (tSeq (tAsg (tLst (tCons (tTup (tCons (tC (.str "is")) (tCons (tTup (tCons (tC (.int 0)) (tCons (tC (.int 3)) tNil))) tNil))) (tCons (tTup (tCons (tC (.str "is")) (tCons (tTup (tCons (tC (.int 0)) (tCons (tC (.int 3)) tNil))) tNil))) (tCons (tTup (tCons (tC (.str "none")) (tCons (tC (.bl true)) tNil))) (tCons (tTup (tCons (tC (.str "none")) (tCons (tC (.bl true)) tNil))) (tCons (tTup (tCons (tC (.str "is")) (tCons (tTup (tCons (tVar 0) tNil)) tNil))) tNil)))))) (gName 5))
  (tSeq (tAsg (tOp rCat (tVar 5) (tLc (iTup K (tTup (tCons (tTup (tCons (tC (.int 2)) tNil)) (tCons (tTup (tCons (tC (.int 2)) (tCons (tC (.int 2)) tNil))) (tCons (tTup (tCons (tC (.int 1)) (tCons (tC (.int 0)) tNil))) (tCons (tLst (tCons (tC (.int 2)) (tCons (tC (.int 0)) tNil))) (tCons (tTup (tCons (tC (.int 2)) (tCons (tC (.bl true)) tNil))) (tCons (tC .non) tNil)))))))) (gName 4) tYes (tTup (tCons (tC (.str "index")) (tCons (tVar 4) (tCons (tC (.bl true)) tNil)))) [4])) (gName 5))
  (tSeq (tIfS (tNot (tB (tCall spLikeD [] E0 (tCons (tVar 3) (tCons (tVar 5) tNil))))) (tRet (tC (.bl false))) tNext)
  (tSeq (tPar 6 3 (tCons (tTup (tCons (tVar 1) (tCons (tVar 1) (tCons (tTup tNil) tNil)))) (tCons (tLst tNil) tNil)))
  (tSeq (tAsg (tTup (tCons (tVar 1) (tCons (tVar 1) (tCons (tOp (rRepQ K) (tTup (tCons (tVar 6) tNil)) (tC (.int 8))) tNil)))) (gName 7))
  (tSeq (tAsg (tLst (tCons (tTup (tCons (tTup (tCons (tC (.int 3)) (tCons (tC (.int 1)) tNil))) (tCons (tC .non) (tCons (tTup (tCons (tC (.str "units")) (tCons (tTup (tCons (tC (.int 3)) (tCons (tC (.int 1)) tNil))) (tCons (tC (.bl true)) tNil)))) tNil)))) (tCons (tTup (tCons (tTup (tCons (tC (.int 2)) tNil)) (tCons (tVar 7) (tCons (tTup (tCons (tC (.str "great")) (tCons (tC (.int 8)) (tCons (tC (.bl true)) tNil)))) tNil)))) tNil))) (gName 8))
  (tSeq (tDrop (tBM K "list" rAppend (tVar 8) (tCons (tTup (tCons (tTup (tCons (tC (.int 2)) tNil)) (tCons (tTup (tCons (tC (.int 5)) (tCons (tC (.int 5)) (tCons (tTup tNil) tNil)))) (tCons (tTup (tCons (tC (.str "tree")) (tCons (tTup tNil) (tCons (tC (.bl true)) tNil)))) tNil)))) tNil)))
  (tSeq (tDrop (tBM K "list" rAppend (tVar 8) (tCons (tTup (tCons (tTup (tCons (tC (.int 2)) tNil)) (tCons (tTup (tCons (tVar 1) (tCons (tVar 1) (tCons (tTup (tCons (tVar 6) (tCons (tTup (tCons (tVar 1) (tCons (tTup (tCons (tC (.int 0)) (tCons (tC (.bl true)) tNil))) (tCons (tTup tNil) tNil)))) tNil))) tNil)))) (tCons (tTup (tCons (tC (.str "tree")) (tCons (tTup (tCons (tC (.int 2)) (tCons (tC (.int 1)) tNil))) (tCons (tC (.bl true)) tNil)))) tNil)))) tNil)))
  (tSeq (tDrop (tBM K "list" rAppend (tVar 8) (tCons (tTup (tCons (tTup (tCons (tC (.int 2)) tNil)) (tCons (tTup (tCons (tVar 1) (tCons (tVar 1) (tCons (tOp (rCatA K) (tTup (tCons (tC (.int 5)) tNil)) (tOp (rRepQ K) (tTup (tCons (tVar 6) tNil)) (tC (.int 9)))) tNil)))) (tCons (tTup (tCons (tC (.str "tree")) (tCons (tTup (tCons (tC (.int 2)) (tCons (tC (.int 0)) tNil))) (tCons (tC (.bl true)) tNil)))) tNil)))) tNil)))
  (tSeq (tFor (iList K (tVar 8)) (gTup K 3 (gCons (gName 9) (gCons (gName 10) (gCons (gName 5) gNil)))) (tDrop (tBM K "list" rAppend (tVar 3) (tCons (tCall spLikeD [] E0 (tCons (LamX.tLam (TT2 PR PB) (TTh A) fun E => (tCall (spLeast A) [] E (tCons (tVar 9) (tCons (tVar 10) (tCons (tC (.int 7)) tNil))))) (tCons (tVar 5) tNil))) tNil))))
  (tRet (tOp (rEqD K) (tVar 3) (tOp rRep (tLst (tCons (tC (.bl true)) tNil)) (tC (.int 5))))))))))))))))))))))),
    (pss_cons (ps_asg (pe_tup (pa_cons (pe_op op_pow pe_int pe_int) (pa_cons (pe_tup (pa_cons pe_int (pa_cons pe_int pa_nil))) pa_nil))) (pg_tup rfl (pgs_cons (pg_name (i := 0) sc_law_by_hand.nd rfl (by first | exact Or.inl rfl | exact Or.inr rfl)) (pgs_cons (pg_name (i := 1) sc_law_by_hand.nd rfl (by first | exact Or.inl rfl | exact Or.inr rfl)) pgs_nil))))
  (pss_cons (ps_set (i := 2) sc_law_by_hand.nd rfl (by first | exact Or.inl rfl | exact Or.inr rfl) (pe_tup (pa_cons (pe_tup (pa_cons pe_int (pa_cons pe_int pa_nil))) (pa_cons (pe_tup (pa_cons pe_int (pa_cons pe_int pa_nil))) (pa_cons (pe_tup (pa_cons (pe_tup (pa_cons (pe_tup (pa_cons pe_int (pa_cons pe_int pa_nil))) (pa_cons (pe_tup (pa_cons pe_int (pa_cons pe_int pa_nil))) (pa_cons (pe_tup pa_nil) pa_nil)))) (pa_cons (pe_tup (pa_cons (pv 1) (pa_cons (pe_tup (pa_cons pe_int (pa_cons pe_int pa_nil))) (pa_cons (pe_tup pa_nil) pa_nil)))) pa_nil))) pa_nil)))))
  (pss_cons (ps_set (i := 3) sc_law_by_hand.nd rfl (by first | exact Or.inl rfl | exact Or.inr rfl) (pe_lst (pa_cons (LamX.pe_lamcall (T := (TT2 PR PB)) (TT := TTh A) (Ng := ["_law_call", "_law_told", "error_so"]) (k := 5) (t := fun E => (tCall (spLeast A) [] E (tCons (tTup (tCons (tC (.int 2)) tNil)) (tCons (tVar 2) (tCons (tTup tNil) tNil))))) rfl mH kH lkH hcH bH sc_heard rfl (Or.inl rfl) (heard_gives B D) TB rfl HM HU (hr.mono (by omega)) (LamX.lamS_by (by show LamX.lamSB (defScope (top 67)) _ = true; decide +kernel)) rfl (fun _ _ _ _ _ => rfl) (fun A1 o1 s1 H1 E1 f1 c1 hr2 => pe_cal C_least_added hr2 (by decide) (by rfl) (passes_call (takes_of rfl rfl rfl rfl) (fun _ _ _ _ h => h)) (pa_cons (pe_tup (pa_cons pe_int pa_nil)) (pa_cons (pv 2) (pa_cons (pe_tup pa_nil) pa_nil))))) pa_nil)))
  (pss_cons (ps_expr (pe_bm PySem.F.plainAttrs_list PySem.F.slot_list_append PySem.F.type_list_append mt_append (pv 3) (pa_cons (LamX.pe_lamcall (T := (TT2 PR PB)) (TT := TTh A) (Ng := ["_law_call", "_law_told", "error_so"]) (k := 5) (t := fun E => (tCall (spLeast A) [] E (tCons (tTup (tCons (tC (.int 2)) tNil)) (tCons (tVar 2) (tCons (tTup (tCons (tC (.int 2)) (tCons (tC (.int 0)) tNil))) tNil))))) rfl mH kH lkH hcH bH sc_heard rfl (Or.inl rfl) (heard_gives B D) TB rfl HM HU (hr.mono (by omega)) (LamX.lamS_by (by show LamX.lamSB (defScope (top 67)) _ = true; decide +kernel)) rfl (fun _ _ _ _ _ => rfl) (fun A1 o1 s1 H1 E1 f1 c1 hr2 => pe_cal C_least_added hr2 (by decide) (by rfl) (passes_call (takes_of rfl rfl rfl rfl) (fun _ _ _ _ h => h)) (pa_cons (pe_tup (pa_cons pe_int pa_nil)) (pa_cons (pv 2) (pa_cons (pe_tup (pa_cons pe_int (pa_cons pe_int pa_nil))) pa_nil))))) pa_nil)))
  (pss_cons (ps_expr (pe_bm PySem.F.plainAttrs_list PySem.F.slot_list_append PySem.F.type_list_append mt_append (pv 3) (pa_cons (LamX.pe_lamcall (T := (TT2 PR PB)) (TT := TTh A) (Ng := ["_law_call", "_law_told", "error_so"]) (k := 5) (t := fun E => (tCall (spLeast A) [] E (tCons (tTup (tCons (tC (.int 2)) tNil)) (tCons (tVar 2) (tCons (tTup (tCons (tC (.int 2)) (tCons (tC (.int 1)) tNil))) tNil))))) rfl mH kH lkH hcH bH sc_heard rfl (Or.inl rfl) (heard_gives B D) TB rfl HM HU (hr.mono (by omega)) (LamX.lamS_by (by show LamX.lamSB (defScope (top 67)) _ = true; decide +kernel)) rfl (fun _ _ _ _ _ => rfl) (fun A1 o1 s1 H1 E1 f1 c1 hr2 => pe_cal C_least_added hr2 (by decide) (by rfl) (passes_call (takes_of rfl rfl rfl rfl) (fun _ _ _ _ h => h)) (pa_cons (pe_tup (pa_cons pe_int pa_nil)) (pa_cons (pv 2) (pa_cons (pe_tup (pa_cons pe_int (pa_cons pe_int pa_nil))) pa_nil))))) pa_nil)))
  (pss_cons (ps_expr (pe_bm PySem.F.plainAttrs_list PySem.F.slot_list_append PySem.F.type_list_append mt_append (pv 3) (pa_cons (LamX.pe_lamcall (T := (TT2 PR PB)) (TT := TTh A) (Ng := ["_law_call", "_law_told", "error_so"]) (k := 5) (t := fun E => (tCall (spLeast A) [] E (tCons (tTup tNil) (tCons (tTup (tCons (tTup (tCons (tC (.int 0)) tNil)) (tCons (tTup (tCons (tVar 0) tNil)) (tCons (tTup (tCons (tTup (tCons (tTup (tCons (tVar 0) tNil)) (tCons (tTup (tCons (tC (.int 1)) tNil)) (tCons (tTup tNil) tNil)))) tNil)) tNil)))) (tCons (tTup (tCons (tC (.int 2)) (tCons (tC (.int 0)) tNil))) tNil))))) rfl mH kH lkH hcH bH sc_heard rfl (Or.inl rfl) (heard_gives B D) TB rfl HM HU (hr.mono (by omega)) (LamX.lamS_by (by show LamX.lamSB (defScope (top 67)) _ = true; decide +kernel)) rfl (fun _ _ _ _ _ => rfl) (fun A1 o1 s1 H1 E1 f1 c1 hr2 => pe_cal C_least_added hr2 (by decide) (by rfl) (passes_call (takes_of rfl rfl rfl rfl) (fun _ _ _ _ h => h)) (pa_cons (pe_tup pa_nil) (pa_cons (pe_tup (pa_cons (pe_tup (pa_cons pe_int pa_nil)) (pa_cons (pe_tup (pa_cons (pv 0) pa_nil)) (pa_cons (pe_tup (pa_cons (pe_tup (pa_cons (pe_tup (pa_cons (pv 0) pa_nil)) (pa_cons (pe_tup (pa_cons pe_int pa_nil)) (pa_cons (pe_tup pa_nil) pa_nil)))) pa_nil)) pa_nil)))) (pa_cons (pe_tup (pa_cons pe_int (pa_cons pe_int pa_nil))) pa_nil))))) pa_nil)))
  (pss_cons (ps_expr (pe_bm PySem.F.plainAttrs_list PySem.F.slot_list_append PySem.F.type_list_append mt_append (pv 3) (pa_cons (LamX.pe_lamcall (T := (TT2 PR PB)) (TT := TTh A) (Ng := ["_law_call", "_law_told", "error_so"]) (k := 5) (t := fun E => (tCall (spLeast A) [] E (tCons (tTup tNil) (tCons (tTup (tCons (tTup (tCons (tC (.int 0)) tNil)) (tCons (tTup (tCons (tVar 0) tNil)) (tCons (tTup (tCons (tTup (tCons (tTup (tCons (tVar 0) tNil)) (tCons (tTup (tCons (tC (.int 1)) tNil)) (tCons (tTup tNil) tNil)))) tNil)) tNil)))) (tCons (tTup tNil) tNil))))) rfl mH kH lkH hcH bH sc_heard rfl (Or.inl rfl) (heard_gives B D) TB rfl HM HU (hr.mono (by omega)) (LamX.lamS_by (by show LamX.lamSB (defScope (top 67)) _ = true; decide +kernel)) rfl (fun _ _ _ _ _ => rfl) (fun A1 o1 s1 H1 E1 f1 c1 hr2 => pe_cal C_least_added hr2 (by decide) (by rfl) (passes_call (takes_of rfl rfl rfl rfl) (fun _ _ _ _ h => h)) (pa_cons (pe_tup pa_nil) (pa_cons (pe_tup (pa_cons (pe_tup (pa_cons pe_int pa_nil)) (pa_cons (pe_tup (pa_cons (pv 0) pa_nil)) (pa_cons (pe_tup (pa_cons (pe_tup (pa_cons (pe_tup (pa_cons (pv 0) pa_nil)) (pa_cons (pe_tup (pa_cons pe_int pa_nil)) (pa_cons (pe_tup pa_nil) pa_nil)))) pa_nil)) pa_nil)))) (pa_cons (pe_tup pa_nil) pa_nil))))) pa_nil)))
  (pss_cons (ps_for PassesOwn.never rfl (pi_tup (pe_tup (pa_cons (pe_tup (pa_cons pe_int pa_nil)) (pa_cons (pe_tup (pa_cons pe_int (pa_cons pe_int pa_nil))) (pa_cons (pe_tup (pa_cons pe_int (pa_cons pe_int pa_nil))) (pa_cons (pe_lst (pa_cons pe_int (pa_cons pe_int pa_nil))) (pa_cons (pe_tup (pa_cons pe_int (pa_cons pe_bl pa_nil))) (pa_cons pe_non pa_nil)))))))) (pg_name (i := 4) sc_law_by_hand.nd rfl (by first | exact Or.inl rfl | exact Or.inr rfl))
  (pss_one (ps_expr (pe_bm PySem.F.plainAttrs_list PySem.F.slot_list_append PySem.F.type_list_append mt_append (pv 3) (pa_cons (LamX.pe_lamcall (T := (TT2 PR PB)) (TT := TTh A) (Ng := ["_law_call", "_law_told", "error_so"]) (k := 5) (t := fun E => (tCall (spLeast A) [] E (tCons (tTup (tCons (tC (.int 2)) tNil)) (tCons (tVar 2) (tCons (tVar 4) tNil))))) rfl mH kH lkH hcH bH sc_heard rfl (Or.inl rfl) (heard_gives B D) TB rfl HM HU (hr.mono (by omega)) (LamX.lamS_by (by show LamX.lamSB (defScope (top 67)) _ = true; decide +kernel)) rfl (fun _ _ _ _ _ => rfl) (fun A1 o1 s1 H1 E1 f1 c1 hr2 => pe_cal C_least_added hr2 (by decide) (by rfl) (passes_call (takes_of rfl rfl rfl rfl) (fun _ _ _ _ h => h)) (pa_cons (pe_tup (pa_cons pe_int pa_nil)) (pa_cons (pv 2) (pa_cons (pv 4) pa_nil))))) pa_nil)))))
  (pss_cons (ps_set (i := 5) sc_law_by_hand.nd rfl (by first | exact Or.inl rfl | exact Or.inr rfl) (pe_lst (pa_cons (pe_tup (pa_cons pe_str (pa_cons (pe_tup (pa_cons pe_int (pa_cons pe_int pa_nil))) pa_nil))) (pa_cons (pe_tup (pa_cons pe_str (pa_cons (pe_tup (pa_cons pe_int (pa_cons pe_int pa_nil))) pa_nil))) (pa_cons (pe_tup (pa_cons pe_str (pa_cons pe_bl pa_nil))) (pa_cons (pe_tup (pa_cons pe_str (pa_cons pe_bl pa_nil))) (pa_cons (pe_tup (pa_cons pe_str (pa_cons (pe_tup (pa_cons (pv 0) pa_nil)) pa_nil))) pa_nil)))))))
  (pss_cons (ps_set (i := 5) sc_law_by_hand.nd rfl (by first | exact Or.inl rfl | exact Or.inr rfl) (pe_op op_cat (pv 5) (pe_lc (own := [("_law_path", 4)]) (g := (gName 4)) (tt := tYes) (te := (tTup (tCons (tC (.str "index")) (tCons (tVar 4) (tCons (tC (.bl true)) tNil))))) rfl sc_law_by_hand.nd (pi_tup (pe_tup (pa_cons (pe_tup (pa_cons pe_int pa_nil)) (pa_cons (pe_tup (pa_cons pe_int (pa_cons pe_int pa_nil))) (pa_cons (pe_tup (pa_cons pe_int (pa_cons pe_int pa_nil))) (pa_cons (pe_lst (pa_cons pe_int (pa_cons pe_int pa_nil))) (pa_cons (pe_tup (pa_cons pe_int (pa_cons pe_bl pa_nil))) (pa_cons pe_non pa_nil)))))))) (blkOk_by (N := ["_law_top", "_law_zeros_so", "_law_tree_so", "_law_got", "_law_path", "_law_due", "_law_lone", "_law_nine", "_law_asked", "_law_units_so", "_law_value"]) (sc := defScope (top 67)) (by decide +kernel)) (fun _ _ _ _ _ => (pg_name (i := 4) sc_law_by_hand.nd rfl (by first | exact Or.inl rfl | exact Or.inr rfl))) (fun _ _ _ _ _ => pts_nil) (fun _ _ _ _ _ => (pe_tup (pa_cons pe_str (pa_cons (pv 4) (pa_cons pe_bl pa_nil))))))))
  (pss_cons (ps_if (pt_not (pt_val (pe_calG C_law_like hr (by first | decide | omega) hG (by rfl) (pa_cons (pv 3) (pa_cons (pv 5) pa_nil)))))
  (pss_one (ps_ret pe_bl))
  pss_nil)
  (pss_cons (ps_par (i := 6) (j := 3) rfl sc_law_by_hand.nd rfl rfl (by decide) rfl rfl (pa_cons (pe_tup (pa_cons (pv 1) (pa_cons (pv 1) (pa_cons (pe_tup pa_nil) pa_nil)))) (pa_cons (pe_lst pa_nil) pa_nil)) (by rfl))
  (pss_cons (ps_set (i := 7) sc_law_by_hand.nd rfl (by first | exact Or.inl rfl | exact Or.inr rfl) (pe_tup (pa_cons (pv 1) (pa_cons (pv 1) (pa_cons (pe_op op_repT1 (pe_tup (pa_cons (pv 6) pa_nil)) pe_int) pa_nil)))))
  (pss_cons (ps_set (i := 8) sc_law_by_hand.nd rfl (by first | exact Or.inl rfl | exact Or.inr rfl) (pe_lst (pa_cons (pe_tup (pa_cons (pe_tup (pa_cons pe_int (pa_cons pe_int pa_nil))) (pa_cons pe_non (pa_cons (pe_tup (pa_cons pe_str (pa_cons (pe_tup (pa_cons pe_int (pa_cons pe_int pa_nil))) (pa_cons pe_bl pa_nil)))) pa_nil)))) (pa_cons (pe_tup (pa_cons (pe_tup (pa_cons pe_int pa_nil)) (pa_cons (pv 7) (pa_cons (pe_tup (pa_cons pe_str (pa_cons pe_int (pa_cons pe_bl pa_nil)))) pa_nil)))) pa_nil))))
  (pss_cons (ps_expr (pe_bm PySem.F.plainAttrs_list PySem.F.slot_list_append PySem.F.type_list_append mt_append (pv 8) (pa_cons (pe_tup (pa_cons (pe_tup (pa_cons pe_int pa_nil)) (pa_cons (pe_tup (pa_cons pe_int (pa_cons pe_int (pa_cons (pe_tup pa_nil) pa_nil)))) (pa_cons (pe_tup (pa_cons pe_str (pa_cons (pe_tup pa_nil) (pa_cons pe_bl pa_nil)))) pa_nil)))) pa_nil)))
  (pss_cons (ps_expr (pe_bm PySem.F.plainAttrs_list PySem.F.slot_list_append PySem.F.type_list_append mt_append (pv 8) (pa_cons (pe_tup (pa_cons (pe_tup (pa_cons pe_int pa_nil)) (pa_cons (pe_tup (pa_cons (pv 1) (pa_cons (pv 1) (pa_cons (pe_tup (pa_cons (pv 6) (pa_cons (pe_tup (pa_cons (pv 1) (pa_cons (pe_tup (pa_cons pe_int (pa_cons pe_bl pa_nil))) (pa_cons (pe_tup pa_nil) pa_nil)))) pa_nil))) pa_nil)))) (pa_cons (pe_tup (pa_cons pe_str (pa_cons (pe_tup (pa_cons pe_int (pa_cons pe_int pa_nil))) (pa_cons pe_bl pa_nil)))) pa_nil)))) pa_nil)))
  (pss_cons (ps_expr (pe_bm PySem.F.plainAttrs_list PySem.F.slot_list_append PySem.F.type_list_append mt_append (pv 8) (pa_cons (pe_tup (pa_cons (pe_tup (pa_cons pe_int pa_nil)) (pa_cons (pe_tup (pa_cons (pv 1) (pa_cons (pv 1) (pa_cons (pe_op op_catA (pe_tup (pa_cons pe_int pa_nil)) (pe_op op_repT1 (pe_tup (pa_cons (pv 6) pa_nil)) pe_int)) pa_nil)))) (pa_cons (pe_tup (pa_cons pe_str (pa_cons (pe_tup (pa_cons pe_int (pa_cons pe_int pa_nil))) (pa_cons pe_bl pa_nil)))) pa_nil)))) pa_nil)))
  (pss_cons (ps_for PassesOwn.never rfl (pi_list (pv 8)) (pg_tup rfl (pgs_cons (pg_name (i := 9) sc_law_by_hand.nd rfl (by first | exact Or.inl rfl | exact Or.inr rfl)) (pgs_cons (pg_name (i := 10) sc_law_by_hand.nd rfl (by first | exact Or.inl rfl | exact Or.inr rfl)) (pgs_cons (pg_name (i := 5) sc_law_by_hand.nd rfl (by first | exact Or.inl rfl | exact Or.inr rfl)) pgs_nil))))
  (pss_one (ps_expr (pe_bm PySem.F.plainAttrs_list PySem.F.slot_list_append PySem.F.type_list_append mt_append (pv 3) (pa_cons (pe_calG C_law_like hr (by first | decide | omega) hG (by rfl) (pa_cons (LamX.pe_lamcall (T := (TT2 PR PB)) (TT := TTh A) (Ng := ["_law_call", "_law_told", "error_so"]) (k := 5) (t := fun E => (tCall (spLeast A) [] E (tCons (tVar 9) (tCons (tVar 10) (tCons (tC (.int 7)) tNil))))) rfl mH kH lkH hcH bH sc_heard rfl (Or.inl rfl) (heard_gives B D) TB rfl HM HU (hr.mono (by omega)) (LamX.lamS_by (by show LamX.lamSB (defScope (top 67)) _ = true; decide +kernel)) rfl (fun _ _ _ _ _ => rfl) (fun A1 o1 s1 H1 E1 f1 c1 hr2 => pe_cal C_least_added hr2 (by decide) (by rfl) (passes_call (takes_of rfl rfl rfl rfl) (fun _ _ _ _ h => h)) (pa_cons (pv 9) (pa_cons (pv 10) (pa_cons pe_int pa_nil))))) (pa_cons (pv 5) pa_nil))) pa_nil)))))
  (pss_one (ps_ret (pe_cmpR (op_eqD hr.units) (pv 3) (pe_op op_rep (pe_lst (pa_cons pe_bl pa_nil)) pe_int) (nomark _)))))))))))))))))))))), ?_⟩
  refine ⟨10, 60, rfl, rfl, ⟨by decide, by decide⟩, ?_⟩
  refine rd_de (ρ := fun _ => .none) (.tup [.int 0, .int 0]) _ _ rfl (by simp [varsE, varsEs]) fun zv H1 e1 a1 => ?_
  refine ⟨small_ (by simp), fun p2 hp2 => ?_⟩
  refine ⟨p2, _, rfl, sqT upd_same, rfl, _, _, rfl, _, _, rfl, rfl, ?_⟩
  have e2 := same_new (o := .tup [.int (10 ^ 60), zv]) hp2
  have z2' := a1.mono e2
  have tb2 := tb.ext (e1.trans e2)
  show tSeq _ _ _ [some (.int (10 ^ 60)), some zv, none, none, none, none, none, none, none, none, none] (upd H1 p2 (.tup [.int (10 ^ 60), zv]))
  generalize upd H1 p2 (.tup [.int (10 ^ 60), zv]) = H2 at z2' tb2 ⊢
  refine seq_de (ρ := fun _ => dR [0, 0]) (.tup [.tup [.int 1, .int 0], .tup [.int 0, .int 1], .tup [.tup [.tup [.int 0, .int 1], .tup [.int 0, .int 4], .tup []], .tup [.var 1, .tup [.int 0, .int 1], .tup []]]]) rfl rfl (fun i hi => ?_) fun tv H3 e3 a3 => ?_
  · simp [varsE, varsEs] at hi
    subst hi
    exact ⟨zv, rfl, z2'⟩
  have z3 := z2'.mono e3
  have tb3 := tb2.ext e3
  have a3' : At H3 tv (trD t1) := a3
  show tSeq _ _ _ [some (.int (10 ^ 60)), some zv, some tv, none, none, none, none, none, none, none, none] H3
  refine hear_step (ρ := fun _ => trD t1) (U := dR [2]) (d := trD t1) (dp := dR []) (o := .ok (dR [0, 3])) [.tup [.int 2], .var 2, .tup []] tb3 rfl (fun i hi => ?_) rfl (canLay_trD t1) (fun ds e => by cases e; decide) (fun _ e => by cases e) (.inr ⟨_, _, rfl, us2, rfl, g1, z1, n1, c1⟩) fun v1 H4 e4 tb4 b4 => ?_
  · simp [varsE, varsEs] at hi
    subst hi
    exact ⟨tv, rfl, a3'⟩
  refine ⟨small_ (by simp), fun lg hlg => ?_⟩
  have e5 := same_new (o := .lst [v1]) hlg
  have be : BE (TT2 PR PB) lg [v1] [hearD (.ok (dR [0, 3]))] tv zv (upd H4 lg (.lst [v1])) := by
    refine ⟨upd_same, ?_, ?_, ?_, tb4.ext e5⟩
    · rw [del_upd]; exact (AtAll.one b4).ext (ext_fresh hlg)
    · rw [del_upd]; exact (a3'.ext e4).ext (ext_fresh hlg)
    · rw [del_upd]; exact (z3.ext e4).ext (ext_fresh hlg)
  generalize upd H4 lg (.lst [v1]) = H5 at be ⊢
  show tSeq _ _ _ [some (.int (10 ^ 60)), some zv, some tv, some (.ref lg), none, none, none, none, none, none, none] H5
  have hvt : ∀ {H : Hp} {zs : List V} {ds : List PyData} {y4 : Option V}, BE (TT2 PR PB) lg zs ds tv zv H → ∃ v, [some (V.int (10 ^ 60)), some zv, some tv, some (.ref lg), y4, none, none, none, none, none, none][2]? = some (some v) ∧ At H v (trD t1) := fun b => ⟨tv, rfl, b.tr.ext ext_undel⟩
  refine seq_hear (ρ := fun _ => trD t1) (U := dR [2]) (d := trD t1) (dp := dR [2, 0]) (o := .ok (dR [0, 3])) [.tup [.int 2], .var 2, .tup [.int 2, .int 0]] rfl be rfl (by simp) rfl (fun i hi => ?_) rfl (canLay_trD t1) (fun ds e => by cases e; decide) (fun _ e => by cases e) (.inr ⟨_, _, rfl, us2, rfl, g1, z1, n1, c2⟩) rfl fun r2 H6 be _ => ?_
  · simp [varsE, varsEs] at hi
    subst hi
    exact hvt be
  refine seq_hear (ρ := fun _ => trD t1) (U := dR [2]) (d := trD t1) (dp := dR [2, 1]) (o := .lack) [.tup [.int 2], .var 2, .tup [.int 2, .int 1]] rfl be rfl (by simp) rfl (fun i hi => ?_) rfl (canLay_trD t1) (fun ds e => by cases e; decide) (fun _ e => by cases e) (.inr ⟨_, _, rfl, us2, rfl, g1, z1, n1, c3⟩) rfl fun r3 H7 be _ => ?_
  · simp [varsE, varsEs] at hi
    subst hi
    exact hvt be
  refine seq_hear (ρ := fun _ => .int (10 ^ 60)) (U := dR []) (d := trD t2) (dp := dR [2, 0]) (o := .lack) [.tup [], .tup [.tup [.int 0], .tup [.var 0], .tup [.tup [.tup [.var 0], .tup [.int 1], .tup []]]], .tup [.int 2, .int 0]] rfl be rfl (by simp) rfl (fun i hi => ?_) rfl (canLay_trD t2) (fun ds e => by cases e; decide) (fun _ e => by cases e) (.inr ⟨_, _, rfl, us0, rfl, g2, z2, n2, c4⟩) rfl fun r4 H8 be _ => ?_
  · simp [varsE, varsEs] at hi
    subst hi
    exact ⟨_, rfl, .int _⟩
  refine seq_hear (ρ := fun _ => .int (10 ^ 60)) (U := dR []) (d := trD t2) (dp := dR []) (o := .ok (dR [10 ^ 60])) [.tup [], .tup [.tup [.int 0], .tup [.var 0], .tup [.tup [.tup [.var 0], .tup [.int 1], .tup []]]], .tup []] rfl be rfl (by simp) rfl (fun i hi => ?_) rfl (canLay_trD t2) (fun ds e => by cases e; decide) (fun _ e => by cases e) (.inr ⟨_, _, rfl, us0, rfl, g2, z2, n2, c5⟩) rfl fun r5 H9 be _ => ?_
  · simp [varsE, varsEs] at hi
    subst hi
    exact ⟨_, rfl, .int _⟩
  -- the wrong paths
  have hw : wrong.length = 6 := rfl
  refine seq_forT (ρ := fun _ => .none) (ds := wrong) [.tup [.int 2], .tup [.int 2, .int 2], .tup [.int 1, .int 0], .lst [.int 2, .int 0], .tup [.int 2, .bl true], .non] rfl rfl rfl (by simp [varsE, varsEs]) (fun pp ps i σ H => ∃ y4 zs, σ = [some (V.int (10 ^ 60)), some zv, some tv, some (.ref lg), y4, none, none, none, none, none, none] ∧
    BE (TT2 PR PB) lg zs ([hearD (.ok (dR [0, 3])), hearD (.ok (dR [0, 3])), hearD .lack, hearD .lack, hearD (.ok (dR [10 ^ 60]))] ++ (wrong.take i).map fun d => hearD (.index d)) tv zv H ∧ zs.length = 5 + i ∧ AtAll (del H lg) ps wrong ∧ H pp = some (.tup ps)) (fun pp ps HA eA hpp hps => ?_) (fun pp ps i σ H h => ?_) (fun pp ps i y σ H hi h hy => ?_) (fun pp ps σ H h => ?_)
  · refine ⟨none, _, rfl, be.mono eA, rfl, hps.delN (be.mono eA).g1 rfl, hpp⟩
  · obtain ⟨_, _, _, _, _, _, h⟩ := h
    exact h
  · obtain ⟨y4, zs, rfl, be, hz, hps, hpp⟩ := h
    obtain ⟨d, hd, ad⟩ := hps.getv hy
    have hlg := be.g1
    rw [hw] at hi
    have hmem : d ∈ wrong := List.mem_of_getElem? hd
    show tDrop _ _ [some (V.int (10 ^ 60)), some zv, some tv, some (.ref lg), some y, none, none, none, none, none, none] H
    refine hear_app (ρ := fun i => if i = 2 then trD t1 else d) (U := dR [2]) (d := trD t1) (dp := d) (o := .index d) [.tup [.int 2], .var 2, .var 4] rfl be rfl (by omega) rfl (fun i hi => ?_) rfl (canLay_trD t1) (fun ds e => ?_) (fun _ e => by cases e) (.inr ⟨_, _, rfl, us2, rfl, g1, z1, n1, List.map_inj_left.mp c6 d hmem⟩) ?_ fun v6 HB be eB => ?_
    · simp [varsE, varsEs] at hi
      rcases hi with rfl | rfl
      · exact ⟨tv, rfl, be.tr.ext ext_undel⟩
      · exact ⟨y, rfl, ad.ext ext_undel⟩
    · subst e
      simp only [wrong, List.mem_cons, List.not_mem_nil, or_false, dR, PyData.tuple.injEq, reduceCtorEq, false_or] at hmem
      rcases hmem with h | h | h | h <;> rw [h] <;> decide
    · have hN : ∀ n, 5 ≤ n → ∀ d ∈ wrong, noN n (hearD (.index d)) = true := fun n hn d hd => by
        simp only [wrong, List.mem_cons, List.not_mem_nil, or_false] at hd
        rcases hd with h | h | h | h | h | h <;> subst h <;> simp [hearD, noN, noNs, dR] <;> omega
      exact hN _ (by omega) d hmem
    · refine ⟨some y, zs ++ [v6], rfl, ?_, by simp [hz]; omega, hps.ext eB, ?_⟩
      · rw [List.take_succ, hd, List.map_append, ← List.append_assoc]
        exact be
      · have := eB pp _ (by rw [del_ne (fun z => by rw [z, hlg] at hpp; cases hpp)]; exact hpp) (fun _ z => by cases z)
        exact ext_undel pp _ this (fun _ z => by cases z)
  obtain ⟨y4, gs, rfl, be, hz, -, -⟩ := h
  rw [List.take_length] at be
  -- what is due
  refine seq_de (ρ := fun _ => .int (10 ^ 60)) (.lst [.tup [.str "is", .tup [.int 0, .int 3]], .tup [.str "is", .tup [.int 0, .int 3]], .tup [.str "none", .bl true], .tup [.str "none", .bl true], .tup [.str "is", .tup [.var 0]]]) rfl rfl (fun i hi => ?_) fun dv HC eC aC => ?_
  · simp [varsE, varsEs] at hi
    subst hi
    exact ⟨_, rfl, .int _⟩
  have be := be.mono eC
  have aC' : At HC dv (.list [hearD (.ok (dR [0, 3])), hearD (.ok (dR [0, 3])), hearD .lack, hearD .lack, hearD (.ok (dR [10 ^ 60]))]) := aC
  cases aC' with
  | @lst dl dxs _ hdl hds =>
  show tSeq _ _ _ [some (V.int (10 ^ 60)), some zv, some tv, some (.ref lg), y4, some (.ref dl), none, none, none, none, none] HC
  refine ⟨.ref dl, rfl, ?_⟩
  refine lc_tag (x := "index") (ρ := fun _ => .none) (ds := wrong) [.tup [.int 2], .tup [.int 2, .int 2], .tup [.int 1, .int 0], .lst [.int 2, .int 0], .tup [.int 2, .bl true], .non] rfl rfl (by decide) rfl (by simp [varsE, varsEs]) (fun _ => rfl) (fun _ => rfl) fun DD ws HD eD hDD hws => ?_
  have be := be.mono eD
  have ldx := hds.len
  have lws := hws.len
  rw [List.length_map, hw] at lws
  refine ⟨dl, DD, dxs, ws, rfl, rfl, eD _ _ hdl, hDD, (by show dxs.length + ws.length ≤ sizeLine; rw [ldx, lws]; decide), fun dd hdd => ?_⟩
  have en := same_new (o := .lst (dxs ++ ws)) hdd
  have be := be.mono en
  have adue : At (upd HD dd (.lst (dxs ++ ws))) (.ref dd) (.list gots) := .lst upd_same (((hds.mono eD).mono en).app (hws.mono en))
  generalize upd HD dd (.lst (dxs ++ ws)) = HE at be adue ⊢
  show tSeq _ _ _ [some (V.int (10 ^ 60)), some zv, some tv, some (.ref lg), y4, some (.ref dd), none, none, none, none, none] HE
  have agot : At HE (.ref lg) (.list gots) := .lst be.g1 (be.g2.ext ext_undel)
  refine ⟨.ref lg, rfl, .ref dd, rfl, ?_⟩
  refine ⟨lg, dd, _, _, rfl, agot, adue, s1, s2, s3, s4, s1, s2, s3, s4, ?_⟩
  rw [decide_eq_true rfl]
  refine ⟨true, rfl, ?_⟩
  refine if_no rfl ?_
  have tbE := be.tb
  have zE : At HE zv (dR [0, 0]) := be.zr.ext ext_undel
  show tSeq _ _ _ [some (V.int (10 ^ 60)), some zv, some tv, some (.ref lg), y4, some (.ref dd), none, none, none, none, none] HE
  clear be agot adue
  refine seq_par (e1 := .tup [.var 1, .var 1, .tup []]) (e2 := .lst []) rfl (ρ := fun _ => dR [0, 0]) rfl (fun i hi => ?_) fun lv lqv HF eF aL aQ => ?_
  · simp [varsE, varsEs] at hi
    subst hi
    exact ⟨zv, rfl, zE⟩
  have aL' : At HF lv lone := aL
  have aQ' : At HF lqv (.list []) := aQ
  obtain ⟨lq, rfl, hlq⟩ : ∃ lq, lqv = .ref lq ∧ HF lq = some (.lst []) := by
    cases aQ' with
    | lst e k =>
      cases k
      exact ⟨_, rfl, e⟩
  have zF := zE.mono eF
  have tbF := tbE.ext eF
  show tSeq _ _ _ [some (V.int (10 ^ 60)), some zv, some tv, some (.ref lq), y4, some (.ref dd), some lv, none, none, none, none] HF
  refine ⟨zv, rfl, zv, rfl, lv, rfl, small_ (by simp), fun q1 hq1 => ?_⟩
  have e1 := same_new (o := .tup [lv]) hq1
  refine rep_c (n := 8) rfl upd_same (aL'.mono e1) (by omega) (by omega) fun w8 HG eG aG => ?_
  refine ⟨small_ (by simp), fun q2 hq2 => ?_⟩
  have e2 := same_new (o := .tup [zv, zv, w8]) hq2
  have eFG := (e1.trans eG).trans e2
  have aN : At (upd HG q2 (.tup [zv, zv, w8])) (.ref q2) v2 := .tup upd_same (.cons (zF.mono eFG) (.cons (zF.mono eFG) (.cons (aG.mono e2) .nil)))
  have zG := zF.mono eFG
  have lG := aL'.mono eFG
  have hqG := eFG _ _ hlq
  have tbG := tbF.ext eFG
  show tSeq _ _ _ [some (V.int (10 ^ 60)), some zv, some tv, some (.ref lq), y4, some (.ref dd), some lv, some (.ref q2), none, none, none] (upd HG q2 (.tup [zv, zv, w8]))
  generalize upd HG q2 (.tup [zv, zv, w8]) = HI at aN zG lG hqG tbG ⊢
  refine seq_de (ρ := fun _ => v2) (.lst [.tup [.tup [.int 3, .int 1], .non, .tup [.str "units", .tup [.int 3, .int 1], .bl true]], .tup [.tup [.int 2], .var 7, .tup [.str "great", .int 8, .bl true]]]) rfl rfl (fun i hi => ?_) fun av HJ eJ aJ => ?_
  · simp [varsE, varsEs] at hi
    subst hi
    exact ⟨_, rfl, aN⟩
  have aJ' : At HJ av (.list [askD (dR [3, 1], .none, .units (dR [3, 1])), askD (dR [2], v2, .great)]) := aJ
  cases aJ' with
  | @lst la as _ hla has =>
  have hnla : la ≠ lq := fun z => by
    have h1 := eJ _ _ hqG
    rw [z, h1] at hla
    cases hla
    cases has
  have fe : FE (TT2 PR PB) la lq as [] [askD (dR [3, 1], .none, .units (dR [3, 1])), askD (dR [2], v2, .great)] zv lv HJ := ⟨hla, eJ _ _ hqG, hnla, has, by decide +kernel, zG.mono eJ, lG.mono eJ, tbG.ext eJ⟩
  have las := has.len
  show tSeq _ _ _ [some (V.int (10 ^ 60)), some zv, some tv, some (.ref lq), y4, some (.ref dd), some lv, some (.ref q2), some (.ref la), none, none] HJ
  refine seq_app (ρ := fun _ => .none) (.tup [.tup [.int 2], .tup [.int 5, .int 5, .tup []], .tup [.str "tree", .tup [], .bl true]]) rfl rfl fe.ha (by rw [las]; decide) rfl (by simp [varsE, varsEs]) fun x3 HK eK aK => ?_
  have fe := (fe.mono eK).app (d := askD (dR [2], v3, .tree (dR []))) aK (by decide +kernel)
  refine seq_app (ρ := fun i => if i = 1 then dR [0, 0] else lone) (.tup [.tup [.int 2], .tup [.var 1, .var 1, .tup [.var 6, .tup [.var 1, .tup [.int 0, .bl true], .tup []]]], .tup [.str "tree", .tup [.int 2, .int 1], .bl true]]) rfl rfl fe.ha (by rw [List.length_append, las]; simp) rfl (fun i hi => ?_) fun x4 HL eL aL => ?_
  · simp [varsE, varsEs] at hi
    have hi : i = 1 ∨ i = 6 := by omega
    rcases hi with rfl | rfl
    · exact ⟨_, rfl, fe.zr⟩
    · exact ⟨_, rfl, fe.lo⟩
  have fe := (fe.mono eL).app (d := askD (dR [2], v4, .tree (dR [2, 1]))) aL (by decide +kernel)
  refine ⟨.ref la, rfl, .inl ⟨rfl, _, sqL fe.ha⟩, ?_⟩
  generalize upd HL la _ = HM at fe ⊢
  refine ⟨small_ (by simp), fun t1 ht1 => ?_⟩
  have a1 : At (upd HM t1 (.tup [.int 2])) (.ref t1) (dR [2]) := At.row (l := [2]) upd_same
  have fe := fe.mono (same_new (o := .tup [.int 2]) ht1)
  generalize upd HM t1 (.tup [.int 2]) = HM1 at a1 fe ⊢
  refine ⟨zv, rfl, zv, rfl, small_ (by simp), fun t2 ht2 => ?_⟩
  have n2 := same_new (o := .tup [.int 5]) ht2
  have a1 := a1.mono n2
  have h2 : upd HM1 t2 (.tup [.int 5]) t2 = some (.tup [.int 5]) := upd_same
  have fe := fe.mono n2
  generalize upd HM1 t2 (.tup [.int 5]) = HM2 at a1 h2 fe ⊢
  refine ⟨lv, rfl, small_ (by simp), fun t3 ht3 => ?_⟩
  have n3 := same_new (o := .tup [lv]) ht3
  refine rep_c (n := 9) rfl upd_same (fe.lo.mono n3) (by omega) (by omega) fun w9 HM3 e3 a3 => ?_
  obtain ⟨t4, ys, rfl, ht4, hys⟩ := a3.of_tup
  have n34 := n3.trans e3
  have a1 := a1.mono n34
  have h2 := n34 _ _ h2
  have fe := fe.mono n34
  have lys := hys.len
  rw [List.length_replicate] at lys
  refine ⟨t2, t4, _, _, rfl, rfl, sqT h2, sqT ht4, by show 1 + ys.length ≤ sizeLine; rw [lys]; decide, (fun e => by cases e), (fun _ e => by rw [e] at lys; cases lys), fun _ _ t5 ht5 => ?_⟩
  have n5 := same_new (o := .tup ([.int 5] ++ ys)) ht5
  have a5 : At (upd HM3 t5 (.tup ([.int 5] ++ ys))) (.ref t5) (.tuple (.int 5 :: List.replicate 9 lone)) := .tup upd_same (.cons (.int 5) (hys.mono n5))
  have a1 := a1.mono n5
  have fe := fe.mono n5
  generalize upd HM3 t5 (.tup ([.int 5] ++ ys)) = HM5 at a1 a5 fe ⊢
  refine ⟨small_ (by simp), fun t6 ht6 => ?_⟩
  have n6 := same_new (o := .tup [zv, zv, .ref t5]) ht6
  have a6 : At (upd HM5 t6 (.tup [zv, zv, .ref t5])) (.ref t6) v5 := .tup upd_same (.cons (fe.zr.mono n6) (.cons (fe.zr.mono n6) (.cons (a5.mono n6) .nil)))
  have a1 := a1.mono n6
  have fe := fe.mono n6
  generalize upd HM5 t6 (.tup [zv, zv, .ref t5]) = HM6 at a1 a6 fe ⊢
  refine rd_de (ρ := fun _ => .none) (.tup [.str "tree", .tup [.int 2, .int 0], .bl true]) HM6 _ rfl (by simp [varsE, varsEs]) fun v7 HM7 e7 a7 => ?_
  have fe := fe.mono e7
  refine ⟨small_ (by simp), fun t8 ht8 => ?_⟩
  have n8 := same_new (o := .tup [.ref t1, .ref t6, v7]) ht8
  have a8 : At (upd HM7 t8 (.tup [.ref t1, .ref t6, v7])) (.ref t8) (askD (dR [2], v5, .tree (dR [2, 0]))) := .tup upd_same (.cons ((a1.mono e7).mono n8) (.cons ((a6.mono e7).mono n8) (.cons (a7.mono n8) .nil)))
  have fe := fe.mono n8
  refine ⟨la, _, _, rfl, rfl, fe.ha, Nat.lt_of_le_of_lt (m := 4) (by simp [las]) (by decide), ?_⟩
  have fe := fe.app a8 (by decide +kernel)
  show tSeq _ _ _ [some (V.int (10 ^ 60)), some zv, some tv, some (.ref lq), y4, some (.ref dd), some lv, some (.ref q2), some (.ref la), none, none] _
  have fe : FE (TT2 PR PB) la lq (((as ++ [x3]) ++ [x4]) ++ [.ref t8]) [] (askT.map askD) zv lv _ := fe
  generalize (((as ++ [x3]) ++ [x4]) ++ [V.ref t8]) = zs at fe ⊢
  generalize upd (upd HM7 t8 _) la _ = HN at fe ⊢
  refine ⟨.ref la, rfl, la, rfl, ⟨zs, sqL fe.ha⟩, ?_⟩
  have lz : zs.length = 5 := fe.zs.len
  have la5 : askT.length = 5 := rfl
  refine for_it (D := { nx := _, rt := Q }) (walk_list (xs := zs)) (fun i σ H => ∃ y4 y5 y9 y10, σ = [some (V.int (10 ^ 60)), some zv, some tv, some (.ref lq), y4, y5, some lv, some (.ref q2), some (.ref la), y9, y10] ∧ FE (TT2 PR PB) la lq zs (List.replicate i (.bl true)) (askT.map askD) zv lv H) ⟨_, _, _, _, rfl, fe⟩ (fun i σ H _ h => ?_) ?_ ?_
  · obtain ⟨_, _, _, _, _, h⟩ := h
    exact sqL h.ha
  · rintro i y σ H2 H3 hi ⟨y4, y5, y9, y10, rfl, fe⟩ hY
    obtain ⟨rfl, hy⟩ := hY
    obtain ⟨d, hd, ad⟩ := fe.zs.getv hy
    rw [List.getElem?_map] at hd
    obtain ⟨x, hx, rfl⟩ : ∃ x, askT[i]? = some x ∧ askD x = d := by
      cases hq : askT[i]? with
      | none => rw [hq] at hd; cases hd
      | some x => rw [hq] at hd; cases hd; exact ⟨x, rfl, rfl⟩
    obtain ⟨h1, h2, h3, h4, h5, h6, h7, h8⟩ := ask_ok x (List.mem_of_getElem? hx)
    obtain ⟨a, x1, x2, x3, rfl, ha, b1, b2, b3⟩ := ad.three
    refine ⟨a, _, rfl, sqT ha, rfl, _, _, rfl, _, _, rfl, _, _, rfl, rfl, ?_⟩
    show tDrop _ _ [some (V.int (10 ^ 60)), some zv, some tv, some (.ref lq), y4, some x3, some lv, some (.ref q2), some (.ref la), some x1, some x2] _
    refine ⟨.ref lq, rfl, .inl ⟨rfl, _, sqL fe.hq⟩, ?_⟩
    refine hear_step (ρ := fun i => if i = 9 then x.1 else x.2.1) (U := x.1) (d := x.2.1) (dp := .int 7) (o := x.2.2) [.var 9, .var 10, .int 7] fe.tb rfl (fun i hi => ?_) rfl h4 (fun ds e => by cases e) h3 (.inl ⟨h1, h2⟩) fun v H5 e5 tb5 a5 => ?_
    · simp [varsE, varsEs] at hi
      rcases hi with rfl | rfl
      · exact ⟨_, rfl, b1⟩
      · exact ⟨_, rfl, b2⟩
    have fe := fe.ext e5 tb5
    have b3 := b3.ext e5
    have lstv : ∀ {v : V} {H : Hp}, At H v (hearD x.2.2) → ∃ q, v = .ref q := fun {v H} h => by
      cases hx : x.2.2 <;> rw [hx] at h <;> cases h <;> exact ⟨_, rfl⟩
    obtain ⟨p1, rfl⟩ := lstv a5
    obtain ⟨p2, rfl⟩ := lstv b3
    refine ⟨.ref p2, rfl, p1, p2, _, _, rfl, a5, b3, h5, h6, h7, h8, h5, h6, h7, h8, ?_⟩
    rw [decide_eq_true rfl]
    refine ⟨lq, _, _, rfl, rfl, fe.hq, by rw [List.length_replicate]; exact Nat.lt_of_lt_of_le (by omega : i < 100) (by decide), y4, some (.ref p2), some x1, some x2, rfl, ?_⟩
    rw [List.replicate_succ']
    exact fe.ans
  · rintro σ H2 ⟨y4, y5, y9, y10, rfl, fe⟩
    rw [lz] at fe
    refine ⟨.ref lq, rfl, small_ (by simp), fun q hq => ?_⟩
    have n1 := same_new (o := .lst [.bl true]) hq
    refine ⟨q, 5, _, rfl, rfl, upd_same, by decide, by decide, small_ (by simp), fun p hp => ?_⟩
    have n2 := same_new (o := .lst (List.replicate (5 : Int).toNat [V.bl true]).flatten) hp
    have hT : ∀ H : Hp, AtAll H (List.replicate 5 (V.bl true)) (List.replicate 5 (PyData.bool true)) := fun H => .cons (.bl true) (.cons (.bl true) (.cons (.bl true) (.cons (.bl true) (.cons (.bl true) .nil))))
    have f1 : At _ (.ref lq) (.list (List.replicate 5 (.bool true))) := .lst ((n1.trans n2) _ _ fe.hq) (hT _)
    have f2 : At _ (.ref p) (.list (List.replicate 5 (.bool true))) := .lst (upd_same (H := upd H2 q (.lst [.bl true])) (o := .lst (List.replicate (5 : Int).toNat [V.bl true]).flatten)) (hT _)
    refine ⟨_, _, f1.dp, f2.dp, rfl, rfl, ?_⟩
    exact k _
end
end K26
set_option Elab.async false
set_option linter.all false
set_option maxRecDepth 100000
set_option maxHeartbeats 4000000
namespace K26
open PySem PySem.Spec PyProof.Rows L2 RZ RT
/-! ## law -/
def spLaw (K : PySem.W.Frag) (T : List (Addr × Str)) : Sp := fun vs H Q _ => ∃ (a : Addr) (zs : List Int), vs = [.ref a] ∧ SqL K H a (zs.map V.int) ∧ zs.length ≤ 1000 ∧ LamX.Tabs T H ∧ ∀ H', Q (.bl true) H'
section
variable {P : Program} {w : World} {K : PySem.W.Frag} {mg : Str → Option Value} {base : Heap} {f : Addr} {fd : FuncData} {PR PB : Addr}
theorem sc_law : FnScope ["_law_script", "_law_state"] ["_law_script"] (defScope (top 68)) := ⟨rfl, rfl, rfl, by decide +kernel, rfl, by decide +kernel, by decide +kernel⟩
theorem ok_law (C_law_begin : Cal P w K mg base CX0 1 "_law_begin" ["_law_script"] (spBegin K)) (C_law_right : Cal P w K mg base CX0 25 "_law_right" ["_law_state"] (spRight (TT2 PR PB))) (C_law_by_hand : CalG P w K mg base 9 "_law_by_hand" [] (spHand (TT2 PR PB)))
    (F : FnP K "law" (top 68) f fd) : FnOkG P w K mg base 26 f fd ["_law_script"] (spLaw K (TT2 PR PB)) := by
  refine okG F sc_law (fun vs H Q E h => by obtain ⟨_, _, rfl, _⟩ := h; rfl) (fun cdv A' outer s0 H vs Q E hcd hr hG h => ?_)
  obtain ⟨a, zs, rfl, ha, hz, tb, k⟩ := h
  refine ⟨(tSeq (tAsg (tCall (spBegin K) [] E0 (tCons (tVar 0) tNil)) (gName 1))
  (tRet (tAndV (tCall (spRight (TT2 PR PB)) [] E0 (tCons (tVar 1) tNil)) (tCall (spHand (TT2 PR PB)) [] E0 tNil)))),
    (pss_cons (ps_set (i := 1) sc_law.nd rfl (by first | exact Or.inl rfl | exact Or.inr rfl) (pe_cal C_law_begin hr (by first | decide | omega) (by rfl) pass0 (pa_cons (pv 0) pa_nil)))
  (pss_one (ps_ret (pe_and (pe_cal C_law_right hr (by omega) (by rfl) pass0 (pa_cons (pv 1) pa_nil)) (pe_one (pe_calG0 C_law_by_hand hr (by omega) hG (by rfl))))))), ?_⟩
  refine ⟨.ref a, rfl, a, zs, rfl, ha, hz, fun p c l H1 e hp hl S => ?_⟩
  refine ⟨.ref p, rfl, p, c, l, rfl, S, tb.ext e, fun H2 tb2 => ⟨true, rfl, ?_⟩⟩
  exact iteT ⟨rfl, tb2, k⟩
end
end K26
set_option Elab.async false
set_option linter.all false
set_option maxRecDepth 100000
set_option maxHeartbeats 4000000
namespace K26
open PySem PySem.Spec PyProof.Rows L2 RZ RT
/-! ## the entry: law is called where no repr is under way -/
/-- what is followed at the entry: the tables, still empty, and the script -/
def entry (K : PySem.W.Frag) (tabs : List Addr) (a : Addr) (o : Obj) (ns : List Int) : Hp := fun b =>
  if b ∈ tabs then some (.tbl #[]) else if b = a ∧ (K.lookup a).isNone = true then some (.frz o (.lst (ns.map V.int))) else none
section
variable {K : PySem.W.Frag} {tabs : List Addr} {a : Addr} {o : Obj} {ns : List Int}
theorem entry_tab {b : Addr} (h : b ∈ tabs) : entry K tabs a o ns b = some (.tbl #[]) := if_pos h
theorem entry_is (b : Addr) : (b ∈ tabs ∧ entry K tabs a o ns b = some (.tbl #[])) ∨ (b = a ∧ K.lookup a = none ∧ entry K tabs a o ns b = some (.frz o (.lst (ns.map V.int)))) ∨ (b ∉ tabs ∧ entry K tabs a o ns b = none) := by
  by_cases h : b ∈ tabs
  · exact .inl ⟨h, if_pos h⟩
  · by_cases h2 : b = a ∧ (K.lookup a).isNone = true
    · exact .inr (.inl ⟨h2.1, by simpa using h2.2, (if_neg h).trans (if_pos h2)⟩)
    · exact .inr (.inr ⟨h, (if_neg h).trans (if_neg h2)⟩)
end
section
variable {P : Program} {w : World} {K : PySem.W.Frag} {mg mb : Str → Option Value} {k : Nat} {fa a : Addr} {cs : List (Addr × Addr)} {fd : FuncData} {x : Str} {sp : Sp} {s : Shared} {vs : List Value} {ns : List Int}
theorem run_entry (hr : Room k callerA) (KX : K.In s.heap) (G : s.heap.Ns mainGlobals mg) (Bl : s.heap.Ns builtinsNs mb) (Bb : ∀ x : Str, x ≠ "__name__" → mb x = bootBuiltins x) (NL : s.heap.NoLimit) (hg : s.gens = #[])
    (C : ∀ p ∈ cs, PySem.W.CodeHd s.heap p.1 p.2) (T0 : ∀ p ∈ cs, s.heap.get? p.2 = some { cls := .none, data := .fields #[] }) (TK : ∀ p ∈ cs, K.lookup p.2 = none)
    (BM : ∃ (bm : Addr) (ob : Obj), mg "__builtins__" = some (.ref bm) ∧ bm ≠ builtinsNs ∧ s.heap.get? bm = some ob ∧ ob.cls = .type "module" ∧ ob.dict = some builtinsNs ∧ ob.data = .plain)
    (hs : s.heap.get? a = some { cls := .type "list", data := .seq vs.toArray }) (iv : IntsAre vs ns) (hl : ns.length ≤ sizeLine)
    (bind : ∀ (s : Shared) (u : Value), BindsTo s fd ⟨[u], []⟩ [(x, u)])
    (want : ∀ H : Hp, (∀ p ∈ cs, H p.2 = some (.tbl #[])) → SqL K H a (ns.map V.int) → sp [.ref a] H (fun v _ => v = .bl true) E0)
    (F : ∀ base : Heap, K.In base → base.Ns mainGlobals mg → (∀ p ∈ cs, LamX.TabB base mg p.1 p.2) → FnOkG P w K mg base k fa fd [x] sp) :
    codeAny (model P w) callerA (.call (.ref fa) ⟨[.ref a], []⟩) (fun r s' => r = .ok (.ret (.bool true)) ∧ OldK s.heap s'.heap ∧ s'.os = s.os ∧ AllBare s'.gens) s := by
  -- the tables' addresses
  let ts : List Addr := cs.map Prod.snd
  have inT : ∀ {p}, p ∈ cs → p.2 ∈ ts := fun h => List.mem_map_of_mem h
  have ofT : ∀ {b}, b ∈ ts → ∃ c, (c, b) ∈ cs := fun {b} h => by
    obtain ⟨⟨c, b'⟩, h1, h2⟩ := List.mem_map.mp h
    exact ⟨c, by rw [← (show b' = b from h2)]; exact h1⟩
  let ob : Obj := { cls := .type "list", data := .seq vs.toArray }
  let H : Hp := entry K ts a ob ns
  -- an object that is neither the script nor a table is not followed
  have off : ∀ {b : Addr} {o : Obj}, s.heap.get? b = some o → o.cls ≠ .type "list" ∨ o.dict ≠ none ∨ (∃ es ep, o.data = .dict es ep) → o.cls ≠ .none ∨ (∃ es ep, o.data = .dict es ep) → H b = none := fun {b o} e h1 h2 => by
    rcases entry_is (K := K) (tabs := ts) (a := a) (o := ob) (ns := ns) b with ⟨hb, _⟩ | ⟨hb, _, _⟩ | ⟨_, hb⟩
    · obtain ⟨c, hc⟩ := ofT hb
      have e1 := (T0 _ hc).symm.trans e
      cases e1
      rcases h2 with h2 | ⟨_, _, h2⟩
      · exact (h2 rfl).elim
      · cases h2
    · subst hb
      have e1 := hs.symm.trans e
      cases e1
      rcases h1 with h1 | h1 | ⟨_, _, h1⟩
      · exact (h1 rfl).elim
      · exact (h1 rfl).elim
      · cases h1
    · exact hb
  have keepNs : ∀ {b : Addr} {m : Str → Option Value}, s.heap.Ns b m → (hidT s.heap H).Ns b m := fun {b m} h => by
    obtain ⟨o, es, ep, h1, h2, h3⟩ := h
    exact ⟨o, es, ep, hidT_get h1 (off h1 (.inr (.inr ⟨_, _, h2⟩)) (.inr ⟨_, _, h2⟩)), h2, h3⟩
  have KB : K.In (hidT s.heap H) := fun b o e => hidT_get (KX b o e) (by
    rcases entry_is (K := K) (tabs := ts) (a := a) (o := ob) (ns := ns) b with ⟨hb, _⟩ | ⟨hb, hk, _⟩ | ⟨_, hb⟩
    · obtain ⟨c, hc⟩ := ofT hb
      rw [TK _ hc] at e
      cases e
    · rw [hb, hk] at e
      cases e
    · exact hb)
  have tabB : ∀ p ∈ cs, LamX.TabB (hidT s.heap H) mg p.1 p.2 := fun p hp => by
    have hTp := T0 p hp
    refine ⟨?_, ?_, fun e => ?_⟩
    · obtain ⟨o, r1, r2, r3, r4, r5, r6, r7, r8, h1, h2, rest⟩ := C p hp
      exact ⟨o, r1, r2, r3, r4, r5, r6, r7, r8, hidT_get h1 (off h1 (.inl (by rw [h2]; simp)) (.inl (by rw [h2]; simp))), h2, rest⟩
    · obtain ⟨bm, om, h1, h2, h3, h4, h5, h6⟩ := BM
      have m1 : bm ≠ mainGlobals := fun e => by
        obtain ⟨o, es, ep, g1, g2, _⟩ := G
        subst e
        cases h3.symm.trans g1
        cases h6.symm.trans g2
      have m2 : bm ≠ p.2 := fun e => by
        rw [← e] at hTp
        cases h3.symm.trans hTp
        cases h4
      exact ⟨bm, om, h1, h2, m1, m2, hidT_get h3 (off h3 (.inl (by rw [h4]; simp)) (.inl (by rw [h4]; simp))), h4, h5, h6⟩
    · obtain ⟨o, es, ep, g1, g2, _⟩ := G
      rw [e] at g1
      cases hTp.symm.trans g1
      cases g2
  have sq : SqL K H a (ns.map V.int) := by
    cases hk : K.lookup a with
    | some o =>
      have e1 := (KX a o hk).symm.trans hs
      cases e1
      exact .inr ⟨_, vs.toArray, _, hk, rfl, rfl, rfl, by rw [List.size_toArray, iv.length]; exact hl, by simpa using vals_ints iv⟩
    | none =>
      rcases entry_is (K := K) (tabs := ts) (a := a) (o := ob) (ns := ns) a with ⟨hb, _⟩ | ⟨_, _, h⟩ | ⟨hn, h⟩
      · obtain ⟨c, hc⟩ := ofT hb
        have e1 := hs.symm.trans (T0 _ hc)
        cases e1
      · exact .inl (.inr ⟨_, h⟩)
      · have h' : entry K ts a ob ns a = none := h
        unfold entry at h'
        rw [if_neg hn, if_pos ⟨rfl, by rw [hk]; rfl⟩] at h'
        cases h'
  have ok : HOk P w H s.heap := fun b u e => by
    rcases entry_is (K := K) (tabs := ts) (a := a) (o := ob) (ns := ns) b with ⟨hb, h⟩ | ⟨hb, _, h⟩ | ⟨_, h⟩
    · obtain ⟨c, hc⟩ := ofT hb
      cases h.symm.trans e
      exact T0 _ hc
    · cases h.symm.trans e
      rw [hb]
      exact ⟨hs, by rw [List.length_map]; exact hl, vs, _, vals_ints iv, hs⟩
    · cases h.symm.trans e
  obtain ⟨lc, lc1, lc2⟩ := NL
  have env : Env0 P w K mg (hidT s.heap H) callerA [] s H :=
    { frames := rfl, mod := ⟨KB, keepNs G, ⟨mb, keepNs Bl, Bb⟩, ⟨lc, keepNs lc1, lc2⟩⟩, bs := fun b o e => of_hidT e, bsz := Nat.le_of_eq (hidT_size _ _), funs := trivial, frf := fun b hb => (List.not_mem_nil (show b ∈ ([] : List Addr) from hb)).elim, hok := ok, bare := .of_eq hg }
  have go := (F _ KB (keepNs G) tabB).run callerA [] s H ⟨[.ref a], []⟩ [.ref a] [.ref a] _ _ hr rfl env (bind s (.ref a)) (.cons rfl .nil) (want H (fun p hp => entry_tab (inT hp)) sq)
  refine codeAny_mono go fun r s' h => ?_
  match r, h with
  | .ok (.ret u), ⟨v, H', os, bare, un, ok', rel, hv⟩ =>
    have hv' : v = .bl true := hv
    subst hv'
    obtain rfl : u = Value.bool true := rel
    -- what was there is there, the tables longer
    have rest : ∀ b o, s.heap.get? b = some o → (b ∉ ts ∧ s'.heap.get? b = some o) ∨ ∃ c, (c, b) ∈ cs ∧ ∃ more : Array Value, s'.heap.get? b = some { cls := .none, data := .fields more } := fun b o e => by
      rcases entry_is (K := K) (tabs := ts) (a := a) (o := ob) (ns := ns) b with ⟨hb, h⟩ | ⟨hb, _, h⟩ | ⟨hn, h⟩
      · obtain ⟨c, hc⟩ := ofT hb
        obtain ⟨more, hm⟩ := un.tbls b #[] h
        exact .inr ⟨c, hc, _, ok' b _ hm⟩
      · have hn : b ∉ ts := fun hb' => by
          obtain ⟨c, hc⟩ := ofT hb'
          rw [hb] at hc
          cases hs.symm.trans (T0 _ hc)
        have e1 := (ok' b _ (un.frzs b ob _ h)).1
        rw [hb] at e
        cases hs.symm.trans e
        exact .inl ⟨hn, e1⟩
      · exact .inl ⟨hn, un.keep b o e h (fun z => List.not_mem_nil (show b ∈ ([] : List Addr) from z)) (fun z => List.not_mem_nil z)⟩
    refine ⟨rfl, ⟨fun b o e => ?_, fun b o e => ?_⟩, os, bare⟩
    · rcases rest b o e with ⟨_, h⟩ | ⟨c, hc, more, hm⟩
      · exact .inl h
      · cases (T0 _ hc).symm.trans e
        exact .inr (.inl ⟨((C _ hc).tab (T0 _ hc)).isCodeTable, rfl, #[], more, rfl, by rw [Array.empty_append]; exact hm⟩)
    · rcases rest b o e with ⟨_, h⟩ | ⟨c, hc, more, hm⟩
      · exact ⟨_, h⟩
      · exact ⟨_, hm⟩
end
end K26
set_option Elab.async false
set_option linter.all false
set_option maxRecDepth 100000
set_option maxHeartbeats 0
namespace K26
open PySem PySem.Spec PyProof.Rows L2
/-! ## the head -/
abbrev dd (x : Str) (s : Stmt) : He.DefD := ⟨(x, none), x, x, defArgs s, defBody s, defScope s, [], []⟩
abbrev dI (x q : Str) (s : Stmt) : He.DefD := ⟨(x, some "__init__"), "__init__", q, defArgs s, defBody s, defScope s, [], []⟩
/-- an exception's class, as its instances need it -/
def oexB (K : PySem.W.Frag) (C : Addr) : Bool := (match K.lookup C with
  | some ⟨.type "type", _, .cls cd, sl⟩ => (match cd.mro, sl.toList with
    | .ref C' :: bm, [_, _, _, _, some (.builtin n), _] => decide (C' = C) && (decide (n = "ValueError.__new__") && (!cd.hasDel && (cd.hasDict && PySem.HandSPX.refsVE bm)))
    | _, _ => false)
  | _ => false) && (He.eqO (PySem.W.findIn K (.ref C) "__setattr__") (some (some (.builtin "object.__setattr__"))) && (decide (PySem.W.subIn K (.ref C) (.type "BaseException") = some true) && (decide (PySem.W.typeIn K (.ref C) = some (.type "type")) && PySem.W.keepIn K (.ref C))))
theorem oexB_ok {K : PySem.W.Frag} {C : Addr} (h : oexB K C = true) : OexC K C := by
  unfold oexB at h
  obtain ⟨h0, h⟩ := He.ba h
  obtain ⟨h1, h⟩ := He.ba h
  obtain ⟨h2, h⟩ := He.ba h
  obtain ⟨h3, h4⟩ := He.ba h
  refine ⟨?_, He.eqO_ok h1, of_decide_eq_true h2, of_decide_eq_true h3, h4⟩
  split at h0
  · rename_i dct cd sl look
    split at h0
    · rename_i C' bm k0 k1 k2 k3 n k5 em es
      simp only [Bool.and_eq_true, decide_eq_true_eq, Bool.not_eq_true'] at h0
      obtain ⟨e1, e2, e3, e4, e5⟩ := h0
      subst e1 e2
      obtain ⟨nm, bs, mro, ns, qn, hd, sn, sub, ab, col, dl⟩ := cd
      dsimp only at em e3 e4
      subst em e3 e4
      have e6 : sl = #[k0, k1, k2, k3, some (.builtin "ValueError.__new__"), k5] := Array.ext' es
      subst e6
      exact ⟨_, _, _, _, _, _, _, _, _, _, _, _, _, _, _, look, e5⟩
    · cases h0
  · cases h0
def initB (K : PySem.W.Frag) (x : Str) : Bool := He.eqO (PySem.W.findIn K (.ref (He.ga K x)) "__init__") (some (some (.ref (He.ma K (He.ga K x) "__init__")))) && decide (PySem.W.typeIn K (.ref (He.ma K (He.ga K x) "__init__")) = some (.type "function"))
def xc0B (K : PySem.W.Frag) (x : Str) : Bool := oexB K (He.ga K x) && (initB K x && (decide (He.ga K x ≠ He.ga K "YardError") && decide (PySem.W.kitCls K (.ref (He.ga K x)) (.ref (He.ga K "YardError")) = some true)))
def xcB (K : PySem.W.Frag) (x g : Str) : Bool := xc0B K x && (He.eqO (PySem.W.findIn K (.ref (He.ga K x)) g) (some none) && xfB K (He.ga K x))
def ydB (K : PySem.W.Frag) (C : Addr) : Bool := He.eqO (PySem.W.specialIn K (.ref C) "__getattribute__") (some (some (.builtin "type.__getattribute__"))) && (decide (PySem.W.typeIn K (.ref C) = some (.type "type")) && (PySem.W.readsIn K C (.type "type") && (match PySem.W.findCls K (.ref C) (.type "type") "__init__" with
  | some (.val (.builtin n)) => decide (n = "ValueError.__init__")
  | _ => false)))
def ex (K : PySem.W.Frag) : Bool := ydB K (He.ga K "YardError") && (xcB K "BadUnits" "value" && (xcB K "BadRow" "value" && (xcB K "BadTree" "path" && (xcB K "BadIndex" "value" && (xc0B K "NoRow" && (xcB K "TooGreat" "most"))))) && decide ((He.cT K ("_law_right", none)).2 ≠ (He.cT K ("_law_by_hand", none)).2))
def fn : List He.DefD := ([dd "is_from" (top 11), dd "is_natural" (top 12), dd "need_units" (top 13), dd "is_row" (top 16), dd "need_row" (top 17), dd "zeros_of" (top 18), dd "added" (top 19), dd "less" (top 20), dd "stair_from" (top 21), dd "row_from" (top 22), dd "up_stair" (top 24), dd "down_stair" (top 25), dd "lack_row" (top 26), dd "rest_row" (top 27), dd "is_yard" (top 30), dd "need_tree" (top 31), dd "yards_of" (top 32), dd "yard_with" (top 33), dd "asked_with" (top 34), dd "needs_table" (top 35)] : List He.DefD) ++ ([dd "is_served" (top 36), dd "handed_down" (top 38), dd "least_added" (top 39), dd "put_yard" (top 41), dd "stocked" (top 42), dd "_law_mixed" (top 44), dd "_law_begin" (top 45), dd "_law_draw" (top 46), dd "_law_of" (top 47), dd "_law_units" (top 48), dd "_law_sizes" (top 49), dd "_law_row" (top 50), dd "_law_beside" (top 51), dd "_law_without" (top 52), dd "_law_cuts" (top 53), dd "_law_fits" (top 54), dd "_law_lefts" (top 55), dd "_law_parts" (top 56), dd "_law_all_rows" (top 57), dd "_law_grove" (top 58)] : List He.DefD) ++ ([dd "_law_yards" (top 59), dd "_law_way" (top 60), dd "_law_shared" (top 61), dd "_law_served_so" (top 62), dd "_law_like" (top 63), dd "_law_heard" (top 64), dd "_law_stocked" (top 65), dd "_law_right" (top 66), dd "_law_by_hand" (top 67), dd "law" (top 68), dI "BadUnits" "BadUnits.__init__" (inClass (top 2) 0), dI "BadRow" "BadRow.__init__" (inClass (top 3) 0), dI "BadTree" "BadTree.__init__" (inClass (top 4) 0), dI "BadIndex" "BadIndex.__init__" (inClass (top 5) 0), dI "NoRow" "NoRow.__init__" (inClass (top 6) 0), dI "TooGreat" "TooGreat.__init__" (inClass (top 7) 0)] : List He.DefD)
def fa : List He.Fa := ([.glo "is_from", .glo "is_natural", .glo "need_units", .glo "is_row", .glo "need_row", .glo "zeros_of", .glo "added", .glo "less", .glo "stair_from", .glo "row_from", .glo "up_stair", .glo "down_stair", .glo "lack_row", .glo "rest_row", .glo "is_yard", .glo "need_tree", .glo "yards_of", .glo "yard_with", .glo "asked_with", .glo "needs_table", .glo "is_served", .glo "handed_down", .glo "least_added", .glo "put_yard", .glo "stocked"] : List He.Fa) ++ ([.glo "_law_mixed", .glo "_law_begin", .glo "_law_draw", .glo "_law_of", .glo "_law_units", .glo "_law_sizes", .glo "_law_row", .glo "_law_beside", .glo "_law_without", .glo "_law_cuts", .glo "_law_fits", .glo "_law_lefts", .glo "_law_parts", .glo "_law_all_rows", .glo "_law_grove", .glo "_law_yards", .glo "_law_way", .glo "_law_shared", .glo "_law_served_so", .glo "_law_like", .glo "_law_heard", .glo "_law_stocked", .glo "_law_right", .glo "_law_by_hand", .glo "law"] : List He.Fa) ++ ([.glo "BadUnits", .glo "BadRow", .glo "BadTree", .glo "BadIndex", .glo "NoRow", .glo "TooGreat", .glo "YardError", .free "len", .free "tuple", .free "list", .free "int", .free "bool", .free "isinstance", .free "min", .free "max", .free "zip", .free "range", .free "enumerate", .free "reversed", .free "sum", .free "sorted", .free "repr", .int "MOST_UNITS" 3, .int "MOST_RATIO" 10, .int "MOST_PIECES" (10 ^ 60)] : List He.Fa) ++ ([.int "MOST_YARDS" 8, .exm "BadUnits" "BadUnits" true, .exm "BadTree" "BadUnits" false, .exm "BadTree" "BadTree" true, .exm "BadIndex" "BadUnits" false, .exm "BadIndex" "BadTree" false, .exm "BadIndex" "BadIndex" true, .exm "TooGreat" "BadUnits" false, .exm "TooGreat" "BadTree" false, .exm "TooGreat" "BadIndex" false, .exm "TooGreat" "TooGreat" true, .exm "NoRow" "BadUnits" false, .exm "NoRow" "BadTree" false, .exm "NoRow" "BadIndex" false, .exm "NoRow" "TooGreat" false, .exm "NoRow" "NoRow" true] : List He.Fa)
abbrev R : PySem.W.OpenRow := PySem.W.OpenLaw.row PySem.Challenge.rw_stairyard_k26_whole_least_stock_more
def tf : List He.Defn := [("_law_right", none), ("_law_by_hand", none)]
/-- what the names reach in n steps, and the interpreter's statics (a class's reading looks there) -/
def near (g : Addr → Option Obj) (n : Nat) : PySem.W.Frag := He.frT g (He.asD g n ++ [cStatics])
def seeT (n : Nat) (g : Addr → Option Obj) : He.AlX := (He.obsT fa fn [] (near g n), ex (near g n) && He.tabsB g tf (near g n))
theorem look_says {n : Nat} {w : World} {h : Heap} (e : seeT n h.get? = He.valX fn [] w) : He.SaysX fa fn [] tf ex w h (near h.get? n) := by
  have both := He.ba (congrArg Prod.snd e : (ex (near h.get? n) && He.tabsB h.get? tf (near h.get? n)) = true)
  have each : ∀ p ∈ tf, PySem.W.codeHdIn (near h.get? n) (He.cT (near h.get? n) p).1 (He.cT (near h.get? n) p).2 = true ∧ ∃ t, h.get? (He.cT (near h.get? n) p).2 = some t ∧ He.emptyTab t = true := by
    intro p hp
    have two := He.ba (List.all_eq_true.mp both.2 p hp)
    refine ⟨two.1, ?_⟩
    have l := two.2
    split at l
    · rename_i t ht
      exact ⟨t, ht, l⟩
    · cases l
  refine { t := congrArg Prod.fst e, more := both.1, hd := fun p hp => (each p hp).1, out := fun p hp => ?_, empty := fun p hp => ?_ }
  · obtain ⟨t, ht, z⟩ := (each p hp).2
    exact He.frT_none ht z
  · obtain ⟨t, ht, z⟩ := (each p hp).2
    exact ht.trans (congrArg some (He.emptyTab_eq z))
/-- the head's look at the heap -/
abbrev hk : PySem.W.Hook :=
  { α := He.AlX, obs := fun s => seeT 4 s.heap.get?, val := fun w => He.valX fn [] w, says := fun w h => ∃ K : PySem.W.Frag, K.In h ∧ He.SaysX fa fn [] tf ex w h K,
    of := fun _ _ e => ⟨_, He.frT_in, look_says e⟩,
    keeps := fun _ _ _ h k => by
      obtain ⟨K, X, S⟩ := h
      exact ⟨K, X.keeps k, { t := S.t, more := S.more, hd := S.hd, out := S.out, empty := fun p hp => k _ _ (S.empty p hp) }⟩ }
def ob (s : PySem.W.SharedT) : He.AlX := seeT 4 (HandSHeadRun.getT s)
theorem ob_eq (s : PySem.W.SharedT) : ob s = hk.obs s.abs := by
  have e : HandSHeadRun.getT s = s.abs.heap.get? := funext (HandSHeadRun.getT_eq s)
  show seeT 4 _ = seeT 4 _
  rw [e]
def loose : List PySem.Str := (["YardError", "BadUnits", "BadRow", "BadTree", "BadIndex", "NoRow", "TooGreat", "MOST_UNITS", "MOST_RATIO", "MOST_PIECES", "MOST_YARDS", "is_from", "is_natural", "need_units", "is_row", "need_row", "zeros_of", "added", "less", "stair_from", "row_from", "up_stair", "down_stair", "lack_row", "rest_row", "is_yard", "need_tree", "yards_of", "yard_with", "asked_with"] : List PySem.Str) ++ (["needs_table", "is_served", "handed_down", "least_added", "put_yard", "stocked", "_law_mixed", "_law_begin", "_law_draw", "_law_of", "_law_units", "_law_sizes", "_law_row", "_law_beside", "_law_without", "_law_cuts", "_law_fits", "_law_lefts", "_law_parts", "_law_all_rows", "_law_grove", "_law_yards", "_law_way", "_law_shared", "_law_served_so", "_law_like", "_law_heard", "_law_stocked", "_law_right", "_law_by_hand"] : List PySem.Str)
end K26
set_option Elab.async false
set_option linter.all false
set_option maxRecDepth 100000
set_option maxHeartbeats 0
namespace K26
open PySem PySem.Spec PyProof.Rows L2
theorem run (w : World) : HandSHeadRun.RunEq R (PySem.W.view R.prog [68]) hk ob 6000 loose w := by
  intro os
  kernel_rfl
end K26
set_option Elab.async false
set_option linter.all false
set_option maxRecDepth 100000
set_option maxHeartbeats 0
namespace K26
open PySem PySem.Spec PyProof.Rows L2 RZ RT
/-! ## what the head tells, joined -/
theorem ydB_ok {K : PySem.W.Frag} {mg : Str → Option Value} {C : Addr} (h : ydB K C = true) (g : mg "YardError" = some (.ref C)) : Yd K mg C := by
  obtain ⟨h1, h⟩ := He.ba h
  obtain ⟨h2, h⟩ := He.ba h
  obtain ⟨h3, h4⟩ := He.ba h
  refine ⟨g, He.eqO_ok h1, of_decide_eq_true h2, h3, ?_⟩
  split at h4
  · rename_i n e
    rw [e, of_decide_eq_true h4]
  · cases h4
structure XcF (K : PySem.W.Frag) (x : Str) : Prop where
  oex : OexC K (He.ga K x)
  ini : PySem.W.findIn K (.ref (He.ga K x)) "__init__" = some (some (.ref (He.fAd K (x, some "__init__"))))
  ty : PySem.W.typeIn K (.ref (He.fAd K (x, some "__init__"))) = some (.type "function")
  ne : He.ga K x ≠ He.ga K "YardError"
  kit : PySem.W.kitCls K (.ref (He.ga K x)) (.ref (He.ga K "YardError")) = some true
theorem xc0B_ok {K : PySem.W.Frag} {x : Str} (h : xc0B K x = true) : XcF K x := by
  obtain ⟨h1, h⟩ := He.ba h
  obtain ⟨h2, h⟩ := He.ba h
  obtain ⟨h3, h4⟩ := He.ba h
  obtain ⟨h5, h6⟩ := He.ba h2
  exact ⟨oexB_ok h1, He.eqO_ok h5, of_decide_eq_true h6, of_decide_eq_true h3, of_decide_eq_true h4⟩
theorem xcB_ok {K : PySem.W.Frag} {x g : Str} (h : xcB K x g = true) : XcF K x ∧ PySem.W.findIn K (.ref (He.ga K x)) g = some none ∧ XfC K (He.ga K x) := by
  obtain ⟨h1, h⟩ := He.ba h
  obtain ⟨h2, h3⟩ := He.ba h
  exact ⟨xc0B_ok h1, He.eqO_ok h2, xfB_ok h3⟩
theorem code_at {K : PySem.W.Frag} {x : Str} {st : Stmt} {p : He.Defn} {fd : FuncData} (F : FnP K x st (He.fAd K p) fd) : fd.code = .ref (He.codeOf K p) := by
  obtain ⟨oc, od, dV, kV, doc, pm, an, cdv, ct, osl, rfl, lk, hcd, _, _⟩ := F.ex
  obtain ⟨c, rfl⟩ := He.codeIn_ref hcd
  exact congrArg Value.ref (He.codeOf_eq lk rfl).symm
abbrev xa (K : PySem.W.Frag) : XA := ⟨He.ga K "BadUnits", He.ga K "BadRow", He.ga K "BadTree", He.ga K "BadIndex", He.ga K "NoRow", He.ga K "TooGreat"⟩
abbrev tR (K : PySem.W.Frag) : Addr := (He.cT K ("_law_right", none)).2
abbrev tB_ (K : PySem.W.Frag) : Addr := (He.cT K ("_law_by_hand", none)).2
theorem facts {P : Program} {w : World} {K : PySem.W.Frag} {h : Heap} {mg : Str → Option Value} {f : Addr} (X : K.In h) (G : h.Ns mainGlobals mg) (hfa : mg ("law" : Str) = some (.ref f)) (c : He.SaysX fa fn [] tf ex w h K) :
    ∃ fd : FuncData, (∀ (s : Shared) (v : Value), BindsTo s fd ⟨[v], []⟩ [("_law_script", v)]) ∧ ∀ base : Heap, K.In base → base.Ns mainGlobals mg → (∀ p ∈ tf.map (He.cT K), LamX.TabB base mg p.1 p.2) → FnOkG P w K mg base 26 f fd ["_law_script"] (spLaw K (TT2 (tR K) (tB_ K))) := by
  have D := c.t.d
  obtain ⟨ey, em⟩ := He.ba c.more
  obtain ⟨em, et⟩ := He.ba em
  have hPQ : tR K ≠ tB_ K := of_decide_eq_true et
  obtain ⟨e_BadUnits, em⟩ := He.ba em
  obtain ⟨e_BadRow, em⟩ := He.ba em
  obtain ⟨e_BadTree, em⟩ := He.ba em
  obtain ⟨e_BadIndex, em⟩ := He.ba em
  obtain ⟨e_NoRow, em⟩ := He.ba em
  have e_TooGreat := em
  have m_is_from := He.glo_ok X G (D.fact 0 (f := .glo "is_from") rfl)
  have m_is_natural := He.glo_ok X G (D.fact 1 (f := .glo "is_natural") rfl)
  have m_need_units := He.glo_ok X G (D.fact 2 (f := .glo "need_units") rfl)
  have m_is_row := He.glo_ok X G (D.fact 3 (f := .glo "is_row") rfl)
  have m_need_row := He.glo_ok X G (D.fact 4 (f := .glo "need_row") rfl)
  have m_zeros_of := He.glo_ok X G (D.fact 5 (f := .glo "zeros_of") rfl)
  have m_added := He.glo_ok X G (D.fact 6 (f := .glo "added") rfl)
  have m_less := He.glo_ok X G (D.fact 7 (f := .glo "less") rfl)
  have m_stair_from := He.glo_ok X G (D.fact 8 (f := .glo "stair_from") rfl)
  have m_row_from := He.glo_ok X G (D.fact 9 (f := .glo "row_from") rfl)
  have m_up_stair := He.glo_ok X G (D.fact 10 (f := .glo "up_stair") rfl)
  have m_down_stair := He.glo_ok X G (D.fact 11 (f := .glo "down_stair") rfl)
  have m_lack_row := He.glo_ok X G (D.fact 12 (f := .glo "lack_row") rfl)
  have m_rest_row := He.glo_ok X G (D.fact 13 (f := .glo "rest_row") rfl)
  have m_is_yard := He.glo_ok X G (D.fact 14 (f := .glo "is_yard") rfl)
  have m_need_tree := He.glo_ok X G (D.fact 15 (f := .glo "need_tree") rfl)
  have m_yards_of := He.glo_ok X G (D.fact 16 (f := .glo "yards_of") rfl)
  have m_yard_with := He.glo_ok X G (D.fact 17 (f := .glo "yard_with") rfl)
  have m_asked_with := He.glo_ok X G (D.fact 18 (f := .glo "asked_with") rfl)
  have m_needs_table := He.glo_ok X G (D.fact 19 (f := .glo "needs_table") rfl)
  have m_is_served := He.glo_ok X G (D.fact 20 (f := .glo "is_served") rfl)
  have m_handed_down := He.glo_ok X G (D.fact 21 (f := .glo "handed_down") rfl)
  have m_least_added := He.glo_ok X G (D.fact 22 (f := .glo "least_added") rfl)
  have m_put_yard := He.glo_ok X G (D.fact 23 (f := .glo "put_yard") rfl)
  have m_stocked := He.glo_ok X G (D.fact 24 (f := .glo "stocked") rfl)
  have m__law_mixed := He.glo_ok X G (D.fact 25 (f := .glo "_law_mixed") rfl)
  have m__law_begin := He.glo_ok X G (D.fact 26 (f := .glo "_law_begin") rfl)
  have m__law_draw := He.glo_ok X G (D.fact 27 (f := .glo "_law_draw") rfl)
  have m__law_of := He.glo_ok X G (D.fact 28 (f := .glo "_law_of") rfl)
  have m__law_units := He.glo_ok X G (D.fact 29 (f := .glo "_law_units") rfl)
  have m__law_sizes := He.glo_ok X G (D.fact 30 (f := .glo "_law_sizes") rfl)
  have m__law_row := He.glo_ok X G (D.fact 31 (f := .glo "_law_row") rfl)
  have m__law_beside := He.glo_ok X G (D.fact 32 (f := .glo "_law_beside") rfl)
  have m__law_without := He.glo_ok X G (D.fact 33 (f := .glo "_law_without") rfl)
  have m__law_cuts := He.glo_ok X G (D.fact 34 (f := .glo "_law_cuts") rfl)
  have m__law_fits := He.glo_ok X G (D.fact 35 (f := .glo "_law_fits") rfl)
  have m__law_lefts := He.glo_ok X G (D.fact 36 (f := .glo "_law_lefts") rfl)
  have m__law_parts := He.glo_ok X G (D.fact 37 (f := .glo "_law_parts") rfl)
  have m__law_all_rows := He.glo_ok X G (D.fact 38 (f := .glo "_law_all_rows") rfl)
  have m__law_grove := He.glo_ok X G (D.fact 39 (f := .glo "_law_grove") rfl)
  have m__law_yards := He.glo_ok X G (D.fact 40 (f := .glo "_law_yards") rfl)
  have m__law_way := He.glo_ok X G (D.fact 41 (f := .glo "_law_way") rfl)
  have m__law_shared := He.glo_ok X G (D.fact 42 (f := .glo "_law_shared") rfl)
  have m__law_served_so := He.glo_ok X G (D.fact 43 (f := .glo "_law_served_so") rfl)
  have m__law_like := He.glo_ok X G (D.fact 44 (f := .glo "_law_like") rfl)
  have m__law_heard := He.glo_ok X G (D.fact 45 (f := .glo "_law_heard") rfl)
  have m__law_stocked := He.glo_ok X G (D.fact 46 (f := .glo "_law_stocked") rfl)
  have m__law_right := He.glo_ok X G (D.fact 47 (f := .glo "_law_right") rfl)
  have m__law_by_hand := He.glo_ok X G (D.fact 48 (f := .glo "_law_by_hand") rfl)
  have m_law := He.glo_ok X G (D.fact 49 (f := .glo "law") rfl)
  have m_BadUnits := He.glo_ok X G (D.fact 50 (f := .glo "BadUnits") rfl)
  have m_BadRow := He.glo_ok X G (D.fact 51 (f := .glo "BadRow") rfl)
  have m_BadTree := He.glo_ok X G (D.fact 52 (f := .glo "BadTree") rfl)
  have m_BadIndex := He.glo_ok X G (D.fact 53 (f := .glo "BadIndex") rfl)
  have m_NoRow := He.glo_ok X G (D.fact 54 (f := .glo "NoRow") rfl)
  have m_TooGreat := He.glo_ok X G (D.fact 55 (f := .glo "TooGreat") rfl)
  have m_YardError := He.glo_ok X G (D.fact 56 (f := .glo "YardError") rfl)
  have B : Bi mg := ⟨He.free_ok X G (D.fact 57 (f := .free "len") rfl), He.free_ok X G (D.fact 58 (f := .free "tuple") rfl), He.free_ok X G (D.fact 59 (f := .free "list") rfl), He.free_ok X G (D.fact 60 (f := .free "int") rfl), He.free_ok X G (D.fact 61 (f := .free "bool") rfl), He.free_ok X G (D.fact 62 (f := .free "isinstance") rfl), He.free_ok X G (D.fact 63 (f := .free "min") rfl), He.free_ok X G (D.fact 64 (f := .free "max") rfl), He.free_ok X G (D.fact 65 (f := .free "zip") rfl), He.free_ok X G (D.fact 66 (f := .free "range") rfl), He.free_ok X G (D.fact 67 (f := .free "enumerate") rfl), He.free_ok X G (D.fact 68 (f := .free "reversed") rfl), He.free_ok X G (D.fact 69 (f := .free "sum") rfl), He.free_ok X G (D.fact 70 (f := .free "sorted") rfl), He.free_ok X G (D.fact 71 (f := .free "repr") rfl)⟩
  have M : Mo mg := ⟨He.int_ok X G (D.fact 72 (f := .int "MOST_UNITS" 3) rfl), He.int_ok X G (D.fact 73 (f := .int "MOST_RATIO" 10) rfl), He.int_ok X G (D.fact 74 (f := .int "MOST_PIECES" (10 ^ 60)) rfl), He.int_ok X G (D.fact 75 (f := .int "MOST_YARDS" 8) rfl)⟩
  have Y : Yd K mg (He.ga K "YardError") := ydB_ok ey m_YardError
  obtain ⟨x_BadUnits, n_BadUnits, f_BadUnits⟩ := xcB_ok e_BadUnits
  obtain ⟨x_BadRow, n_BadRow, f_BadRow⟩ := xcB_ok e_BadRow
  obtain ⟨x_BadTree, n_BadTree, f_BadTree⟩ := xcB_ok e_BadTree
  obtain ⟨x_BadIndex, n_BadIndex, f_BadIndex⟩ := xcB_ok e_BadIndex
  have x_NoRow := xc0B_ok e_NoRow
  obtain ⟨x_TooGreat, n_TooGreat, f_TooGreat⟩ := xcB_ok e_TooGreat
  have H0 : Hd K mg (xa K) (He.ga K "YardError") := ⟨m_YardError, m_BadUnits, m_BadTree, m_BadIndex, m_TooGreat, m_NoRow, ⟨f_BadUnits, n_BadUnits⟩, ⟨f_BadTree, n_BadTree⟩, ⟨f_BadIndex, n_BadIndex⟩, ⟨f_TooGreat, n_TooGreat⟩, ⟨x_BadUnits.ne, x_BadUnits.kit⟩, ⟨x_BadTree.ne, x_BadTree.kit⟩, ⟨x_BadIndex.ne, x_BadIndex.kit⟩, ⟨x_TooGreat.ne, x_TooGreat.kit⟩, ⟨x_NoRow.ne, x_NoRow.kit⟩, He.exm_ok (D.fact 76 (f := .exm "BadUnits" "BadUnits" true) rfl), He.exm_ok (D.fact 77 (f := .exm "BadTree" "BadUnits" false) rfl), He.exm_ok (D.fact 78 (f := .exm "BadTree" "BadTree" true) rfl), He.exm_ok (D.fact 79 (f := .exm "BadIndex" "BadUnits" false) rfl), He.exm_ok (D.fact 80 (f := .exm "BadIndex" "BadTree" false) rfl), He.exm_ok (D.fact 81 (f := .exm "BadIndex" "BadIndex" true) rfl), He.exm_ok (D.fact 82 (f := .exm "TooGreat" "BadUnits" false) rfl), He.exm_ok (D.fact 83 (f := .exm "TooGreat" "BadTree" false) rfl), He.exm_ok (D.fact 84 (f := .exm "TooGreat" "BadIndex" false) rfl), He.exm_ok (D.fact 85 (f := .exm "TooGreat" "TooGreat" true) rfl), He.exm_ok (D.fact 86 (f := .exm "NoRow" "BadUnits" false) rfl), He.exm_ok (D.fact 87 (f := .exm "NoRow" "BadTree" false) rfl), He.exm_ok (D.fact 88 (f := .exm "NoRow" "BadIndex" false) rfl), He.exm_ok (D.fact 89 (f := .exm "NoRow" "TooGreat" false) rfl), He.exm_ok (D.fact 90 (f := .exm "NoRow" "NoRow" true) rfl)⟩
  obtain ⟨fd_is_from, F_is_from⟩ := D.def_ 0 (d := dd "is_from" (top 11)) rfl
  obtain ⟨fd_is_natural, F_is_natural⟩ := D.def_ 1 (d := dd "is_natural" (top 12)) rfl
  obtain ⟨fd_need_units, F_need_units⟩ := D.def_ 2 (d := dd "need_units" (top 13)) rfl
  obtain ⟨fd_is_row, F_is_row⟩ := D.def_ 3 (d := dd "is_row" (top 16)) rfl
  obtain ⟨fd_need_row, F_need_row⟩ := D.def_ 4 (d := dd "need_row" (top 17)) rfl
  obtain ⟨fd_zeros_of, F_zeros_of⟩ := D.def_ 5 (d := dd "zeros_of" (top 18)) rfl
  obtain ⟨fd_added, F_added⟩ := D.def_ 6 (d := dd "added" (top 19)) rfl
  obtain ⟨fd_less, F_less⟩ := D.def_ 7 (d := dd "less" (top 20)) rfl
  obtain ⟨fd_stair_from, F_stair_from⟩ := D.def_ 8 (d := dd "stair_from" (top 21)) rfl
  obtain ⟨fd_row_from, F_row_from⟩ := D.def_ 9 (d := dd "row_from" (top 22)) rfl
  obtain ⟨fd_up_stair, F_up_stair⟩ := D.def_ 10 (d := dd "up_stair" (top 24)) rfl
  obtain ⟨fd_down_stair, F_down_stair⟩ := D.def_ 11 (d := dd "down_stair" (top 25)) rfl
  obtain ⟨fd_lack_row, F_lack_row⟩ := D.def_ 12 (d := dd "lack_row" (top 26)) rfl
  obtain ⟨fd_rest_row, F_rest_row⟩ := D.def_ 13 (d := dd "rest_row" (top 27)) rfl
  obtain ⟨fd_is_yard, F_is_yard⟩ := D.def_ 14 (d := dd "is_yard" (top 30)) rfl
  obtain ⟨fd_need_tree, F_need_tree⟩ := D.def_ 15 (d := dd "need_tree" (top 31)) rfl
  obtain ⟨fd_yards_of, F_yards_of⟩ := D.def_ 16 (d := dd "yards_of" (top 32)) rfl
  obtain ⟨fd_yard_with, F_yard_with⟩ := D.def_ 17 (d := dd "yard_with" (top 33)) rfl
  obtain ⟨fd_asked_with, F_asked_with⟩ := D.def_ 18 (d := dd "asked_with" (top 34)) rfl
  obtain ⟨fd_needs_table, F_needs_table⟩ := D.def_ 19 (d := dd "needs_table" (top 35)) rfl
  obtain ⟨fd_is_served, F_is_served⟩ := D.def_ 20 (d := dd "is_served" (top 36)) rfl
  obtain ⟨fd_handed_down, F_handed_down⟩ := D.def_ 21 (d := dd "handed_down" (top 38)) rfl
  obtain ⟨fd_least_added, F_least_added⟩ := D.def_ 22 (d := dd "least_added" (top 39)) rfl
  obtain ⟨fd_put_yard, F_put_yard⟩ := D.def_ 23 (d := dd "put_yard" (top 41)) rfl
  obtain ⟨fd_stocked, F_stocked⟩ := D.def_ 24 (d := dd "stocked" (top 42)) rfl
  obtain ⟨fd__law_mixed, F__law_mixed⟩ := D.def_ 25 (d := dd "_law_mixed" (top 44)) rfl
  obtain ⟨fd__law_begin, F__law_begin⟩ := D.def_ 26 (d := dd "_law_begin" (top 45)) rfl
  obtain ⟨fd__law_draw, F__law_draw⟩ := D.def_ 27 (d := dd "_law_draw" (top 46)) rfl
  obtain ⟨fd__law_of, F__law_of⟩ := D.def_ 28 (d := dd "_law_of" (top 47)) rfl
  obtain ⟨fd__law_units, F__law_units⟩ := D.def_ 29 (d := dd "_law_units" (top 48)) rfl
  obtain ⟨fd__law_sizes, F__law_sizes⟩ := D.def_ 30 (d := dd "_law_sizes" (top 49)) rfl
  obtain ⟨fd__law_row, F__law_row⟩ := D.def_ 31 (d := dd "_law_row" (top 50)) rfl
  obtain ⟨fd__law_beside, F__law_beside⟩ := D.def_ 32 (d := dd "_law_beside" (top 51)) rfl
  obtain ⟨fd__law_without, F__law_without⟩ := D.def_ 33 (d := dd "_law_without" (top 52)) rfl
  obtain ⟨fd__law_cuts, F__law_cuts⟩ := D.def_ 34 (d := dd "_law_cuts" (top 53)) rfl
  obtain ⟨fd__law_fits, F__law_fits⟩ := D.def_ 35 (d := dd "_law_fits" (top 54)) rfl
  obtain ⟨fd__law_lefts, F__law_lefts⟩ := D.def_ 36 (d := dd "_law_lefts" (top 55)) rfl
  obtain ⟨fd__law_parts, F__law_parts⟩ := D.def_ 37 (d := dd "_law_parts" (top 56)) rfl
  obtain ⟨fd__law_all_rows, F__law_all_rows⟩ := D.def_ 38 (d := dd "_law_all_rows" (top 57)) rfl
  obtain ⟨fd__law_grove, F__law_grove⟩ := D.def_ 39 (d := dd "_law_grove" (top 58)) rfl
  obtain ⟨fd__law_yards, F__law_yards⟩ := D.def_ 40 (d := dd "_law_yards" (top 59)) rfl
  obtain ⟨fd__law_way, F__law_way⟩ := D.def_ 41 (d := dd "_law_way" (top 60)) rfl
  obtain ⟨fd__law_shared, F__law_shared⟩ := D.def_ 42 (d := dd "_law_shared" (top 61)) rfl
  obtain ⟨fd__law_served_so, F__law_served_so⟩ := D.def_ 43 (d := dd "_law_served_so" (top 62)) rfl
  obtain ⟨fd__law_like, F__law_like⟩ := D.def_ 44 (d := dd "_law_like" (top 63)) rfl
  obtain ⟨fd__law_heard, F__law_heard⟩ := D.def_ 45 (d := dd "_law_heard" (top 64)) rfl
  obtain ⟨fd__law_stocked, F__law_stocked⟩ := D.def_ 46 (d := dd "_law_stocked" (top 65)) rfl
  obtain ⟨fd__law_right, F__law_right⟩ := D.def_ 47 (d := dd "_law_right" (top 66)) rfl
  obtain ⟨fd__law_by_hand, F__law_by_hand⟩ := D.def_ 48 (d := dd "_law_by_hand" (top 67)) rfl
  obtain ⟨fd_law, F_law⟩ := D.def_ 49 (d := dd "law" (top 68)) rfl
  obtain ⟨fi_BadUnits, I_BadUnits⟩ := D.def_ 50 (d := dI "BadUnits" "BadUnits.__init__" (inClass (top 2) 0)) rfl
  obtain ⟨fi_BadRow, I_BadRow⟩ := D.def_ 51 (d := dI "BadRow" "BadRow.__init__" (inClass (top 3) 0)) rfl
  obtain ⟨fi_BadTree, I_BadTree⟩ := D.def_ 52 (d := dI "BadTree" "BadTree.__init__" (inClass (top 4) 0)) rfl
  obtain ⟨fi_BadIndex, I_BadIndex⟩ := D.def_ 53 (d := dI "BadIndex" "BadIndex.__init__" (inClass (top 5) 0)) rfl
  obtain ⟨fi_NoRow, I_NoRow⟩ := D.def_ 54 (d := dI "NoRow" "NoRow.__init__" (inClass (top 6) 0)) rfl
  obtain ⟨fi_TooGreat, I_TooGreat⟩ := D.def_ 55 (d := dI "TooGreat" "TooGreat.__init__" (inClass (top 7) 0)) rfl
  have b_is_from : Binds K fd_is_from ["value", "low", "high"] [] := FunD.bindsN (ps := ["value", "low", "high"]) F_is_from fun _ _ _ _ _ _ us hl => match us, hl with | [_, _, _], _ => rfl
  have b_is_natural : Binds K fd_is_natural ["value"] [] := FunD.bindsN (ps := ["value"]) F_is_natural fun _ _ _ _ _ _ us hl => match us, hl with | [_], _ => rfl
  have b_need_units : Binds K fd_need_units ["value"] [] := FunD.bindsN (ps := ["value"]) F_need_units fun _ _ _ _ _ _ us hl => match us, hl with | [_], _ => rfl
  have b_is_row : Binds K fd_is_row ["units", "value"] [] := FunD.bindsN (ps := ["units", "value"]) F_is_row fun _ _ _ _ _ _ us hl => match us, hl with | [_, _], _ => rfl
  have b_need_row : Binds K fd_need_row ["units", "value"] [] := FunD.bindsN (ps := ["units", "value"]) F_need_row fun _ _ _ _ _ _ us hl => match us, hl with | [_, _], _ => rfl
  have b_zeros_of : Binds K fd_zeros_of ["units"] [] := FunD.bindsN (ps := ["units"]) F_zeros_of fun _ _ _ _ _ _ us hl => match us, hl with | [_], _ => rfl
  have b_added : Binds K fd_added ["one", "other"] [] := FunD.bindsN (ps := ["one", "other"]) F_added fun _ _ _ _ _ _ us hl => match us, hl with | [_, _], _ => rfl
  have b_less : Binds K fd_less ["one", "other"] [] := FunD.bindsN (ps := ["one", "other"]) F_less fun _ _ _ _ _ _ us hl => match us, hl with | [_, _], _ => rfl
  have b_stair_from : Binds K fd_stair_from ["units", "row"] [] := FunD.bindsN (ps := ["units", "row"]) F_stair_from fun _ _ _ _ _ _ us hl => match us, hl with | [_, _], _ => rfl
  have b_row_from : Binds K fd_row_from ["units", "stair"] [] := FunD.bindsN (ps := ["units", "stair"]) F_row_from fun _ _ _ _ _ _ us hl => match us, hl with | [_, _], _ => rfl
  have b_up_stair : Binds K fd_up_stair ["units", "numbers"] [] := FunD.bindsN (ps := ["units", "numbers"]) F_up_stair fun _ _ _ _ _ _ us hl => match us, hl with | [_, _], _ => rfl
  have b_down_stair : Binds K fd_down_stair ["units", "numbers"] [] := FunD.bindsN (ps := ["units", "numbers"]) F_down_stair fun _ _ _ _ _ _ us hl => match us, hl with | [_, _], _ => rfl
  have b_lack_row : Binds K fd_lack_row ["units", "order", "stock"] [] := FunD.bindsN (ps := ["units", "order", "stock"]) F_lack_row fun _ _ _ _ _ _ us hl => match us, hl with | [_, _, _], _ => rfl
  have b_rest_row : Binds K fd_rest_row ["units", "stock", "order"] [] := FunD.bindsN (ps := ["units", "stock", "order"]) F_rest_row fun _ _ _ _ _ _ us hl => match us, hl with | [_, _, _], _ => rfl
  have b_is_yard : Binds K fd_is_yard ["units", "value"] [] := FunD.bindsN (ps := ["units", "value"]) F_is_yard fun _ _ _ _ _ _ us hl => match us, hl with | [_, _], _ => rfl
  have b_need_tree : Binds K fd_need_tree ["units", "value"] [] := FunD.bindsN (ps := ["units", "value"]) F_need_tree fun _ _ _ _ _ _ us hl => match us, hl with | [_, _], _ => rfl
  have b_yards_of : Binds K fd_yards_of ["tree"] [] := FunD.bindsN (ps := ["tree"]) F_yards_of fun _ _ _ _ _ _ us hl => match us, hl with | [_], _ => rfl
  have b_yard_with : Binds K fd_yard_with ["tree", "path"] [] := FunD.bindsN (ps := ["tree", "path"]) F_yard_with fun _ _ _ _ _ _ us hl => match us, hl with | [_, _], _ => rfl
  have b_asked_with : Binds K fd_asked_with ["here", "path", "table"] [] := FunD.bindsN (ps := ["here", "path", "table"]) F_asked_with fun _ _ _ _ _ _ us hl => match us, hl with | [_, _, _], _ => rfl
  have b_needs_table : Binds K fd_needs_table ["units", "tree"] [] := FunD.bindsN (ps := ["units", "tree"]) F_needs_table fun _ _ _ _ _ _ us hl => match us, hl with | [_, _], _ => rfl
  have b_is_served : Binds K fd_is_served ["units", "tree"] [] := FunD.bindsN (ps := ["units", "tree"]) F_is_served fun _ _ _ _ _ _ us hl => match us, hl with | [_, _], _ => rfl
  have b_handed_down : Binds K fd_handed_down ["units", "tree", "table", "path"] [] := FunD.bindsN (ps := ["units", "tree", "table", "path"]) F_handed_down fun _ _ _ _ _ _ us hl => match us, hl with | [_, _, _, _], _ => rfl
  have b_least_added : Binds K fd_least_added ["units", "tree", "path"] [] := FunD.bindsN (ps := ["units", "tree", "path"]) F_least_added fun _ _ _ _ _ _ us hl => match us, hl with | [_, _, _], _ => rfl
  have b_put_yard : Binds K fd_put_yard ["tree", "path", "yard"] [] := FunD.bindsN (ps := ["tree", "path", "yard"]) F_put_yard fun _ _ _ _ _ _ us hl => match us, hl with | [_, _, _], _ => rfl
  have b_stocked : Binds K fd_stocked ["units", "tree", "path", "row"] [] := FunD.bindsN (ps := ["units", "tree", "path", "row"]) F_stocked fun _ _ _ _ _ _ us hl => match us, hl with | [_, _, _, _], _ => rfl
  have b__law_mixed : Binds K fd__law_mixed ["_law_cell", "_law_k"] [] := FunD.bindsN (ps := ["_law_cell", "_law_k"]) F__law_mixed fun _ _ _ _ _ _ us hl => match us, hl with | [_, _], _ => rfl
  have b__law_begin : Binds K fd__law_begin ["_law_script"] [] := FunD.bindsN (ps := ["_law_script"]) F__law_begin fun _ _ _ _ _ _ us hl => match us, hl with | [_], _ => rfl
  have b__law_draw : Binds K fd__law_draw ["_law_state", "_law_limit"] [] := FunD.bindsN (ps := ["_law_state", "_law_limit"]) F__law_draw fun _ _ _ _ _ _ us hl => match us, hl with | [_, _], _ => rfl
  have b__law_of : Binds K fd__law_of ["_law_state", "_law_some"] [] := FunD.bindsN (ps := ["_law_state", "_law_some"]) F__law_of fun _ _ _ _ _ _ us hl => match us, hl with | [_, _], _ => rfl
  have b__law_units : Binds K fd__law_units ["_law_state"] [] := FunD.bindsN (ps := ["_law_state"]) F__law_units fun _ _ _ _ _ _ us hl => match us, hl with | [_], _ => rfl
  have b__law_sizes : Binds K fd__law_sizes ["_law_units_so"] [] := FunD.bindsN (ps := ["_law_units_so"]) F__law_sizes fun _ _ _ _ _ _ us hl => match us, hl with | [_], _ => rfl
  have b__law_row : Binds K fd__law_row ["_law_state", "_law_units_so", "_law_most"] [] := FunD.bindsN (ps := ["_law_state", "_law_units_so", "_law_most"]) F__law_row fun _ _ _ _ _ _ us hl => match us, hl with | [_, _, _], _ => rfl
  have b__law_beside : Binds K fd__law_beside ["_law_one", "_law_other"] [] := FunD.bindsN (ps := ["_law_one", "_law_other"]) F__law_beside fun _ _ _ _ _ _ us hl => match us, hl with | [_, _], _ => rfl
  have b__law_without : Binds K fd__law_without ["_law_row_here", "_law_order"] [] := FunD.bindsN (ps := ["_law_row_here", "_law_order"]) F__law_without fun _ _ _ _ _ _ us hl => match us, hl with | [_, _], _ => rfl
  have b__law_cuts : Binds K fd__law_cuts ["_law_units_so", "_law_row_here"] [] := FunD.bindsN (ps := ["_law_units_so", "_law_row_here"]) F__law_cuts fun _ _ _ _ _ _ us hl => match us, hl with | [_, _], _ => rfl
  have b__law_fits : Binds K fd__law_fits ["_law_units_so", "_law_order", "_law_stock"] [] := FunD.bindsN (ps := ["_law_units_so", "_law_order", "_law_stock"]) F__law_fits fun _ _ _ _ _ _ us hl => match us, hl with | [_, _, _], _ => rfl
  have b__law_lefts : Binds K fd__law_lefts ["_law_units_so", "_law_stock", "_law_order"] [] := FunD.bindsN (ps := ["_law_units_so", "_law_stock", "_law_order"]) F__law_lefts fun _ _ _ _ _ _ us hl => match us, hl with | [_, _, _], _ => rfl
  have b__law_parts : Binds K fd__law_parts ["_law_row_here"] [] := FunD.bindsN (ps := ["_law_row_here"]) F__law_parts fun _ _ _ _ _ _ us hl => match us, hl with | [_], _ => rfl
  have b__law_all_rows : Binds K fd__law_all_rows ["_law_units_so", "_law_most"] [] := FunD.bindsN (ps := ["_law_units_so", "_law_most"]) F__law_all_rows fun _ _ _ _ _ _ us hl => match us, hl with | [_, _], _ => rfl
  have b__law_grove : Binds K fd__law_grove ["_law_state", "_law_units_so", "_law_many_so"] [] := FunD.bindsN (ps := ["_law_state", "_law_units_so", "_law_many_so"]) F__law_grove fun _ _ _ _ _ _ us hl => match us, hl with | [_, _, _], _ => rfl
  have b__law_yards : Binds K fd__law_yards ["_law_tree_so", "_law_path"] [] := FunD.bindsN (ps := ["_law_tree_so", "_law_path"]) F__law_yards fun _ _ _ _ _ _ us hl => match us, hl with | [_, _], _ => rfl
  have b__law_way : Binds K fd__law_way ["_law_units_so", "_law_tree_so", "_law_path", "_law_sent", "_law_seen"] [] := FunD.bindsN (ps := ["_law_units_so", "_law_tree_so", "_law_path", "_law_sent", "_law_seen"]) F__law_way fun _ _ _ _ _ _ us hl => match us, hl with | [_, _, _, _, _], _ => rfl
  have b__law_shared : Binds K fd__law_shared ["_law_units_so", "_law_tree_so", "_law_path", "_law_index", "_law_left", "_law_seen"] [] := FunD.bindsN (ps := ["_law_units_so", "_law_tree_so", "_law_path", "_law_index", "_law_left", "_law_seen"]) F__law_shared fun _ _ _ _ _ _ us hl => match us, hl with | [_, _, _, _, _, _], _ => rfl
  have b__law_served_so : Binds K fd__law_served_so ["_law_units_so", "_law_tree_so"] [] := FunD.bindsN (ps := ["_law_units_so", "_law_tree_so"]) F__law_served_so fun _ _ _ _ _ _ us hl => match us, hl with | [_, _], _ => rfl
  have b__law_like : Binds K fd__law_like ["_law_got", "_law_due"] [] := FunD.bindsN (ps := ["_law_got", "_law_due"]) F__law_like fun _ _ _ _ _ _ us hl => match us, hl with | [_, _], _ => rfl
  have b__law_heard : Binds K fd__law_heard ["_law_call"] [] := FunD.bindsN (ps := ["_law_call"]) F__law_heard fun _ _ _ _ _ _ us hl => match us, hl with | [_], _ => rfl
  have b__law_stocked : Binds K fd__law_stocked ["_law_tree_so", "_law_path", "_law_row_here"] [] := FunD.bindsN (ps := ["_law_tree_so", "_law_path", "_law_row_here"]) F__law_stocked fun _ _ _ _ _ _ us hl => match us, hl with | [_, _, _], _ => rfl
  have b__law_right : Binds K fd__law_right ["_law_state"] [] := FunD.bindsN (ps := ["_law_state"]) F__law_right fun _ _ _ _ _ _ us hl => match us, hl with | [_], _ => rfl
  have b__law_by_hand : Binds K fd__law_by_hand [] [] := FunD.bindsN (ps := []) F__law_by_hand fun _ _ _ _ _ _ us hl => match us, hl with | [], _ => rfl
  have b_law : Binds K fd_law ["_law_script"] [] := FunD.bindsN (ps := ["_law_script"]) F_law fun _ _ _ _ _ _ us hl => match us, hl with | [_], _ => rfl
  have bi_BadUnits : Binds K fi_BadUnits ["self", "value"] [] := FunD.bindsN (ps := ["self", "value"]) I_BadUnits fun _ _ _ _ _ _ us hl => match us, hl with | [_, _], _ => rfl
  have bi_BadRow : Binds K fi_BadRow ["self", "value"] [] := FunD.bindsN (ps := ["self", "value"]) I_BadRow fun _ _ _ _ _ _ us hl => match us, hl with | [_, _], _ => rfl
  have bi_BadTree : Binds K fi_BadTree ["self", "path"] [] := FunD.bindsN (ps := ["self", "path"]) I_BadTree fun _ _ _ _ _ _ us hl => match us, hl with | [_, _], _ => rfl
  have bi_BadIndex : Binds K fi_BadIndex ["self", "value"] [] := FunD.bindsN (ps := ["self", "value"]) I_BadIndex fun _ _ _ _ _ _ us hl => match us, hl with | [_, _], _ => rfl
  have bi_NoRow : Binds K fi_NoRow ["self"] [] := FunD.bindsN (ps := ["self"]) I_NoRow fun _ _ _ _ _ _ us hl => match us, hl with | [_], _ => rfl
  have bi_TooGreat : Binds K fi_TooGreat ["self", "most"] [] := FunD.bindsN (ps := ["self", "most"]) I_TooGreat fun _ _ _ _ _ _ us hl => match us, hl with | [_, _], _ => rfl
  have e0 := hfa.symm.trans m_law
  cases e0
  refine ⟨fd_law, fun s v => FunD.bindsA (ps := ["_law_script"]) F_law (fun _ _ _ _ _ _ us hl => match us, hl with | [_], _ => rfl) s [v] rfl, fun base KB GB TB => ?_⟩
  have TR : LamX.TabB base mg (He.codeOf K ("_law_right", none)) (tR K) := TB (He.cT K ("_law_right", none)) (List.mem_map.mpr ⟨_, List.mem_cons_self, rfl⟩)
  have TH : LamX.TabB base mg (He.codeOf K ("_law_by_hand", none)) (tB_ K) := TB (He.cT K ("_law_by_hand", none)) (List.mem_map.mpr ⟨_, List.mem_cons_of_mem _ List.mem_cons_self, rfl⟩)
  have X_BadUnits : Xc P w K mg base "BadUnits" (He.ga K "BadUnits") "value" := ⟨x_BadUnits.oex, m_BadUnits, _, _, x_BadUnits.ini, x_BadUnits.ty, ok_init_BadUnits Y x_BadUnits.oex n_BadUnits I_BadUnits, bi_BadUnits⟩
  have X_BadRow : Xc P w K mg base "BadRow" (He.ga K "BadRow") "value" := ⟨x_BadRow.oex, m_BadRow, _, _, x_BadRow.ini, x_BadRow.ty, ok_init_BadRow Y x_BadRow.oex n_BadRow I_BadRow, bi_BadRow⟩
  have X_BadTree : Xc P w K mg base "BadTree" (He.ga K "BadTree") "path" := ⟨x_BadTree.oex, m_BadTree, _, _, x_BadTree.ini, x_BadTree.ty, ok_init_BadTree Y x_BadTree.oex n_BadTree I_BadTree, bi_BadTree⟩
  have X_BadIndex : Xc P w K mg base "BadIndex" (He.ga K "BadIndex") "value" := ⟨x_BadIndex.oex, m_BadIndex, _, _, x_BadIndex.ini, x_BadIndex.ty, ok_init_BadIndex Y x_BadIndex.oex n_BadIndex I_BadIndex, bi_BadIndex⟩
  have X_NoRow : Xc0 P w K mg base "NoRow" (He.ga K "NoRow") := ⟨x_NoRow.oex, m_NoRow, _, _, x_NoRow.ini, x_NoRow.ty, ok_init_NoRow Y x_NoRow.oex I_NoRow, bi_NoRow⟩
  have X_TooGreat : Xc P w K mg base "TooGreat" (He.ga K "TooGreat") "most" := ⟨x_TooGreat.oex, m_TooGreat, _, _, x_TooGreat.ini, x_TooGreat.ty, ok_init_TooGreat Y x_TooGreat.oex n_TooGreat I_TooGreat, bi_TooGreat⟩
  have C_is_from : Cal P w K mg base CX0 1 "is_from" ["value", "low", "high"] spFrom := ⟨_, _, ok_is_from (B := B) (F := F_is_from), m_is_from, F_is_from.kp, b_is_from⟩
  have C_is_natural : Cal P w K mg base CX0 1 "is_natural" ["value"] spNat := ⟨_, _, ok_is_natural (B := B) (F := F_is_natural), m_is_natural, F_is_natural.kp, b_is_natural⟩
  have C_need_units : Cal P w K mg base (L2.CX P w) 3 "need_units" ["value"] (spUnits (xa K)) := ⟨_, _, ok_need_units (B := B) (M := M) (X_BadUnits := X_BadUnits) (C_is_from := C_is_from) (F := F_need_units), m_need_units, F_need_units.kp, b_need_units⟩
  have C_is_row : Cal P w K mg base CX0 2 "is_row" ["units", "value"] spIsRow := ⟨_, _, ok_is_row (B := B) (M := M) (C_is_from := C_is_from) (F := F_is_row), m_is_row, F_is_row.kp, b_is_row⟩
  have C_need_row : Cal P w K mg base (L2.CX P w) 4 "need_row" ["units", "value"] (spNeedRow (xa K)) := ⟨_, _, ok_need_row (B := B) (X_BadRow := X_BadRow) (C_is_row := C_is_row) (C_need_units := C_need_units) (F := F_need_row), m_need_row, F_need_row.kp, b_need_row⟩
  have C_zeros_of : Cal P w K mg base CX0 1 "zeros_of" ["units"] spZer := ⟨_, _, ok_zeros_of (B := B) (F := F_zeros_of), m_zeros_of, F_zeros_of.kp, b_zeros_of⟩
  have C_added : Cal P w K mg base CX0 1 "added" ["one", "other"] spAdd := ⟨_, _, ok_added (B := B) (F := F_added), m_added, F_added.kp, b_added⟩
  have C_less : Cal P w K mg base CX0 1 "less" ["one", "other"] spSub := ⟨_, _, ok_less (B := B) (F := F_less), m_less, F_less.kp, b_less⟩
  have C_stair_from : Cal P w K mg base CX0 1 "stair_from" ["units", "row"] (spRow st) := ⟨_, _, ok_stair_from (B := B) (F := F_stair_from), m_stair_from, F_stair_from.kp, b_stair_from⟩
  have C_row_from : Cal P w K mg base CX0 1 "row_from" ["units", "stair"] (spRow ro) := ⟨_, _, ok_row_from (B := B) (F := F_row_from), m_row_from, F_row_from.kp, b_row_from⟩
  have C_up_stair : Cal P w K mg base CX0 1 "up_stair" ["units", "numbers"] (spRow up) := ⟨_, _, ok_up_stair (B := B) (F := F_up_stair), m_up_stair, F_up_stair.kp, b_up_stair⟩
  have C_down_stair : Cal P w K mg base CX0 1 "down_stair" ["units", "numbers"] spDown := ⟨_, _, ok_down_stair (B := B) (F := F_down_stair), m_down_stair, F_down_stair.kp, b_down_stair⟩
  have C_lack_row : Cal P w K mg base CX0 2 "lack_row" ["units", "order", "stock"] (spRow3 fun us a b => dR (lk us a b)) := ⟨_, _, ok_lack_row (B := B) (C_row_from := C_row_from) (C_up_stair := C_up_stair) (C_less := C_less) (C_stair_from := C_stair_from) (F := F_lack_row), m_lack_row, F_lack_row.kp, b_lack_row⟩
  have C_rest_row : Cal P w K mg base CX0 2 "rest_row" ["units", "stock", "order"] (spRow3 fun us a b => dO (rest us a b)) := ⟨_, _, ok_rest_row (B := B) (C_row_from := C_row_from) (C_down_stair := C_down_stair) (C_less := C_less) (C_stair_from := C_stair_from) (F := F_rest_row), m_rest_row, F_rest_row.kp, b_rest_row⟩
  have C_is_yard : Cal P w K mg base CX0 3 "is_yard" ["units", "value"] spIsYard := ⟨_, _, ok_is_yard (B := B) (C_is_row := C_is_row) (F := F_is_yard), m_is_yard, F_is_yard.kp, b_is_yard⟩
  have C_need_tree : Cal P w K mg base (L2.CX P w) 4 "need_tree" ["units", "value"] (spNeedTree (xa K)) := ⟨_, _, ok_need_tree (B := B) (M := M) (X_TooGreat := X_TooGreat) (X_BadTree := X_BadTree) (C_is_yard := C_is_yard) (C_need_units := C_need_units) (F := F_need_tree), m_need_tree, F_need_tree.kp, b_need_tree⟩
  have C_yards_of : Cal P w K mg base CX0 1 "yards_of" ["tree"] spYards := ⟨_, _, ok_yards_of (B := B) (F := F_yards_of), m_yards_of, F_yards_of.kp, b_yards_of⟩
  have C_yard_with : Cal P w K mg base (L2.CX P w) 3 "yard_with" ["tree", "path"] (spYardWith (xa K)) := ⟨_, _, ok_yard_with (B := B) (X_BadIndex := X_BadIndex) (C_is_natural := C_is_natural) (C_yards_of := C_yards_of) (F := F_yard_with), m_yard_with, F_yard_with.kp, b_yard_with⟩
  have C_asked_with : Cal P w K mg base CX0 2 "asked_with" ["here", "path", "table"] spAsked := ⟨_, _, ok_asked_with (B := B) (C_added := C_added) (F := F_asked_with), m_asked_with, F_asked_with.kp, b_asked_with⟩
  have C_needs_table : Cal P w K mg base CX0 3 "needs_table" ["units", "tree"] spTable := ⟨_, _, ok_needs_table (B := B) (C_yards_of := C_yards_of) (C_lack_row := C_lack_row) (C_asked_with := C_asked_with) (F := F_needs_table), m_needs_table, F_needs_table.kp, b_needs_table⟩
  have C_is_served : Cal P w K mg base (L2.CX P w) 5 "is_served" ["units", "tree"] (spServed (xa K)) := ⟨_, _, ok_is_served (B := B) (C_need_tree := C_need_tree) (C_needs_table := C_needs_table) (C_zeros_of := C_zeros_of) (F := F_is_served), m_is_served, F_is_served.kp, b_is_served⟩
  have C_handed_down : Cal P w K mg base CX0 3 "handed_down" ["units", "tree", "table", "path"] spHanded := ⟨_, _, ok_handed_down (B := B) (C_added := C_added) (C_rest_row := C_rest_row) (C_zeros_of := C_zeros_of) (F := F_handed_down), m_handed_down, F_handed_down.kp, b_handed_down⟩
  have C_least_added : Cal P w K mg base (L2.CX P w) 5 "least_added" ["units", "tree", "path"] (spLeast (xa K)) := ⟨_, _, ok_least_added (B := B) (X_NoRow := X_NoRow) (C_need_tree := C_need_tree) (C_yard_with := C_yard_with) (C_needs_table := C_needs_table) (C_handed_down := C_handed_down) (C_asked_with := C_asked_with) (C_added := C_added) (C_lack_row := C_lack_row) (F := F_least_added), m_least_added, F_least_added.kp, b_least_added⟩
  have C_put_yard : Cal P w K mg base CX0 10 "put_yard" ["tree", "path", "yard"] (spPut 9) := ⟨_, _, ok_put_yard (B := B) (F := F_put_yard) (hm := m_put_yard) (hk := F_put_yard.kp) (hb := b_put_yard) 9, m_put_yard, F_put_yard.kp, b_put_yard⟩
  have C_stocked : Cal P w K mg base (L2.CX P w) 11 "stocked" ["units", "tree", "path", "row"] (spStocked (xa K)) := ⟨_, _, ok_stocked (B := B) (C_need_tree := C_need_tree) (C_yard_with := C_yard_with) (C_need_row := C_need_row) (C_put_yard := C_put_yard) (C_added := C_added) (F := F_stocked), m_stocked, F_stocked.kp, b_stocked⟩
  have C_law_mixed : Cal P w K mg base CX0 1 "_law_mixed" ["_law_cell", "_law_k"] spMix := ⟨_, _, ok_law_mixed (B := B) (F := F__law_mixed), m__law_mixed, F__law_mixed.kp, b__law_mixed⟩
  have C_law_begin : Cal P w K mg base CX0 1 "_law_begin" ["_law_script"] (spBegin K) := ⟨_, _, ok_law_begin (B := B) (F := F__law_begin), m__law_begin, F__law_begin.kp, b__law_begin⟩
  have C_law_draw : Cal P w K mg base CX0 2 "_law_draw" ["_law_state", "_law_limit"] spDraw := ⟨_, _, ok_law_draw (B := B) (C_law_mixed := C_law_mixed) (F := F__law_draw), m__law_draw, F__law_draw.kp, b__law_draw⟩
  have C_law_of : Cal P w K mg base CX0 3 "_law_of" ["_law_state", "_law_some"] spOf := ⟨_, _, ok_law_of (B := B) (C_law_draw := C_law_draw) (F := F__law_of), m__law_of, F__law_of.kp, b__law_of⟩
  have C_law_units : Cal P w K mg base CX0 3 "_law_units" ["_law_state"] spUnitsL := ⟨_, _, ok_law_units (B := B) (C_law_draw := C_law_draw) (F := F__law_units), m__law_units, F__law_units.kp, b__law_units⟩
  have C_law_sizes : Cal P w K mg base CX0 1 "_law_sizes" ["_law_units_so"] spSizes := ⟨_, _, ok_law_sizes (B := B) (F := F__law_sizes), m__law_sizes, F__law_sizes.kp, b__law_sizes⟩
  have C_law_row : Cal P w K mg base CX0 3 "_law_row" ["_law_state", "_law_units_so", "_law_most"] spRowL := ⟨_, _, ok_law_row (B := B) (C_law_draw := C_law_draw) (C_law_sizes := C_law_sizes) (F := F__law_row), m__law_row, F__law_row.kp, b__law_row⟩
  have C_law_beside : Cal P w K mg base CX0 1 "_law_beside" ["_law_one", "_law_other"] spAdd := ⟨_, _, ok_law_beside (B := B) (F := F__law_beside), m__law_beside, F__law_beside.kp, b__law_beside⟩
  have C_law_without : Cal P w K mg base CX0 1 "_law_without" ["_law_row_here", "_law_order"] spSub := ⟨_, _, ok_law_without (B := B) (F := F__law_without), m__law_without, F__law_without.kp, b__law_without⟩
  have C_law_cuts : Cal P w K mg base CX0 1 "_law_cuts" ["_law_units_so", "_law_row_here"] spCuts := ⟨_, _, ok_law_cuts (B := B) (F := F__law_cuts), m__law_cuts, F__law_cuts.kp, b__law_cuts⟩
  have C_law_fits : Cal P w K mg base CX0 2 "_law_fits" ["_law_units_so", "_law_order", "_law_stock"] spFits := ⟨_, _, ok_law_fits (B := B) (C_law_cuts := C_law_cuts) (C_law_without := C_law_without) (F := F__law_fits), m__law_fits, F__law_fits.kp, b__law_fits⟩
  have C_law_lefts : Cal P w K mg base CX0 2 "_law_lefts" ["_law_units_so", "_law_stock", "_law_order"] spLefts := ⟨_, _, ok_law_lefts (B := B) (C_law_cuts := C_law_cuts) (C_law_without := C_law_without) (F := F__law_lefts), m__law_lefts, F__law_lefts.kp, b__law_lefts⟩
  have C_law_parts : Cal P w K mg base CX0 1 "_law_parts" ["_law_row_here"] spParts := ⟨_, _, ok_law_parts (B := B) (F := F__law_parts), m__law_parts, F__law_parts.kp, b__law_parts⟩
  have C_law_all_rows : Cal P w K mg base CX0 2 "_law_all_rows" ["_law_units_so", "_law_most"] spAllR := ⟨_, _, ok_law_all_rows (B := B) (C_law_sizes := C_law_sizes) (F := F__law_all_rows), m__law_all_rows, F__law_all_rows.kp, b__law_all_rows⟩
  have C_law_grove : Cal P w K mg base CX0 8 "_law_grove" ["_law_state", "_law_units_so", "_law_many_so"] (spGrove 4) := ⟨_, _, ok_law_grove (B := B) (C_law_draw := C_law_draw) (C_law_row := C_law_row) (F := F__law_grove) (hm := m__law_grove) (hk := F__law_grove.kp) (hb := b__law_grove) 4, m__law_grove, F__law_grove.kp, b__law_grove⟩
  have C_law_yards : Cal P w K mg base CX0 5 "_law_yards" ["_law_tree_so", "_law_path"] (spYardsL 4) := ⟨_, _, ok_law_yards (B := B) (F := F__law_yards) (hm := m__law_yards) (hk := F__law_yards.kp) (hb := b__law_yards) 4, m__law_yards, F__law_yards.kp, b__law_yards⟩
  have WS := ok_ws (P := P) (w := w) (base := base) B C_law_lefts C_law_beside C_law_parts C_law_without F__law_way m__law_way F__law_way.kp b__law_way F__law_shared m__law_shared F__law_shared.kp b__law_shared 20
  have C_law_way : Cal P w K mg base CX0 23 "_law_way" ["_law_units_so", "_law_tree_so", "_law_path", "_law_sent", "_law_seen"] (spWay P w 20) := ⟨_, _, WS.1, m__law_way, F__law_way.kp, b__law_way⟩
  have C_law_served_so : Cal P w K mg base CX0 24 "_law_served_so" ["_law_units_so", "_law_tree_so"] spSo := ⟨_, _, ok_law_served_so (B := B) (C_law_way := C_law_way) (F := F__law_served_so), m__law_served_so, F__law_served_so.kp, b__law_served_so⟩
  have C_law_like : Cal P w K mg base CX0 1 "_law_like" ["_law_got", "_law_due"] spLikeB := ⟨_, _, ok_law_likeB B F__law_like, m__law_like, F__law_like.kp, b__law_like⟩
  have CG_law_like : CalG P w K mg base 1 "_law_like" ["_law_got", "_law_due"] spLikeD := ⟨_, _, ok_law_likeD B F__law_like, m__law_like, F__law_like.kp, b__law_like⟩
  have C_law_stocked : Cal P w K mg base CX0 11 "_law_stocked" ["_law_tree_so", "_law_path", "_law_row_here"] (spStkL 9) := ⟨_, _, ok_law_stocked (B := B) (C_law_beside := C_law_beside) (F := F__law_stocked) (hm := m__law_stocked) (hk := F__law_stocked.kp) (hb := b__law_stocked) 9, m__law_stocked, F__law_stocked.kp, b__law_stocked⟩
  have C_law_right : Cal P w K mg base CX0 25 "_law_right" ["_law_state"] (spRight (TT2 (tR K) (tB_ K))) := ⟨_, _, ok_law_right (B := B) (D := H0) (hPQ := hPQ) (hc0 := (code_at (x := "_law_right") (st := top 66) F__law_right)) (TB := TR) (FH := F__law_heard) (mH := m__law_heard) (kH := F__law_heard.kp) (bH := b__law_heard) (C_least_added := C_least_added) (C_is_served := C_is_served) (C_stocked := C_stocked) (C_law_units := C_law_units) (C_law_grove := C_law_grove) (C_law_all_rows := C_law_all_rows) (C_law_yards := C_law_yards) (C_law_of := C_law_of) (C_law_served_so := C_law_served_so) (C_law_stocked := C_law_stocked) (C_law_fits := C_law_fits) (C_law_like := C_law_like) (F := F__law_right), m__law_right, F__law_right.kp, b__law_right⟩
  have CG_law_by_hand : CalG P w K mg base 9 "_law_by_hand" [] (spHand (TT2 (tR K) (tB_ K))) := ⟨_, _, ok_law_by_hand (B := B) (D := H0) (hPQ := hPQ) (hc0 := (code_at (x := "_law_by_hand") (st := top 67) F__law_by_hand)) (TB := TH) (FH := F__law_heard) (mH := m__law_heard) (kH := F__law_heard.kp) (bH := b__law_heard) (C_least_added := C_least_added) (C_law_like := CG_law_like) (F := F__law_by_hand), m__law_by_hand, F__law_by_hand.kp, b__law_by_hand⟩
  exact ok_law (C_law_begin := C_law_begin) (C_law_right := C_law_right) (C_law_by_hand := CG_law_by_hand) (F := F_law)
end K26
set_option Elab.async false
set_option linter.all false
set_option maxRecDepth 100000
set_option maxHeartbeats 0
namespace K26
open PySem PySem.Spec PyProof.Rows L2
theorem tabs_none {H : Hp} {PR PB : Addr} (h1 : H PR = some (.tbl #[])) (h2 : H PB = some (.tbl #[])) : LamX.Tabs (TT2 PR PB) H := fun q hq => by
  rcases List.mem_cons.mp hq with rfl | hq
  · exact LamX.TabS.nil h1
  · rcases List.mem_singleton.mp hq with rfl
    exact LamX.TabS.nil h2
theorem walk {loose : List Str} {q : Program} {XP : (Str → Option Value) → Heap → Prop} {d : DefRec} {n : Nat} (most : (PySem.Challenge.rw_stairyard_k26_whole_least_stock_more).most = some n) (n1 : n ≤ 1000) (d0 : d.params.defaults = []) (dn : d.name = ("law" : Str)) :
    PySem.W.WalkO q loose XP hk.says (PySem.Challenge.rw_stairyard_k26_whole_least_stock_more).row.toRowW d [] (fun f vs => PySem.call f vs) := by
  refine Att.attach_callB most d0 fun w t₀ t₁ gl bl at_ obj x1 x2 x3 scr items zs gr says y1 y2 y3 nm sobj zint zlen zbits gens => ?_
  obtain ⟨K, inn, told⟩ := says
  rw [dn] at nm
  obtain ⟨fd, bind, prom⟩ := facts (P := (PySem.Challenge.rw_stairyard_k26_whole_least_stock_more).prog) (w := w) inn gr.T.g nm told
  have of_tf : ∀ {p : Addr × Addr}, p ∈ tf.map (He.cT K) → ∃ u, u ∈ tf ∧ He.cT K u = p := fun h => List.mem_map.mp h
  refine run_entry (cs := tf.map (He.cT K)) ⟨rfl, by decide, by decide⟩ inn gr.T.g gr.T.b gr.T.builtins gr.T.nolimit gens (fun p hp => ?_) (fun p hp => ?_) (fun p hp => ?_) gr.T.bmain sobj zint (Nat.le_trans zlen (Nat.le_trans n1 (by decide))) bind (fun H tabs sq => ?_) prom
  · obtain ⟨u, hu, rfl⟩ := of_tf hp
    exact PySem.W.codeHd_of_K inn (told.hd u hu)
  · obtain ⟨u, hu, rfl⟩ := of_tf hp
    exact told.empty u hu
  · obtain ⟨u, hu, rfl⟩ := of_tf hp
    exact told.out u hu
  · exact ⟨scr, zs, rfl, sq, Nat.le_trans zlen n1, tabs_none (tabs _ (List.mem_map.mpr ⟨_, List.mem_cons_self, rfl⟩)) (tabs _ (List.mem_map.mpr ⟨_, List.mem_cons_of_mem _ List.mem_cons_self, rfl⟩)), fun _ => rfl⟩
end K26
open PySem PySem.W PySem.Calls PyProof.Rows
theorem PySem.Challenge.cw_stairyard_k26_whole_least_stock_more_holds : PySem.Challenge.rw_stairyard_k26_whole_least_stock_more.Holds := by
  w_on; o_law
  refine HandSHeadRun.head_any (loose := K26.loose) (kwd := []) (M := 6000) (H := K26.hk) (ob := K26.ob) (r := K26.R) (q := view K26.R.prog [68]) (d := HandSHeadRun.topDef K26.R.prog 68) K26.ob_eq (by kernel_rfl) (fun s => by kernel_rfl) K26.run
    (by kernel_rfl) (by kernel_rfl) (by kernel_rfl) (by rfl) (by first | assumption | decide +kernel) (by decide +kernel) ⟨rfl, rfl, rfl, rfl, rfl, by decide +kernel⟩ ?hw ?hc
  case hw => w_witness2
  case hc => exact K26.walk rfl (by decide) (by kernel_rfl) (by kernel_rfl)
