import PyProof.Rows.All
import Wide.All
import OpenK.AllK
import Wide.FinOn
import HandS.ForMost
import HandS.Codes
import HandS.IsInst
import HandS.Wide
import HandS.WideBits
import HandS.TupMul
import HandS.Defaults
import HandS.CallRecv
import PySem.Challenge.RW_majordomo_k10_whole_falls_of_a_journal
set_option Elab.async false
set_option linter.all false
namespace Mj
open PySem

/-! ## numbers -/
def putN (n : Nat) : List Int :=
  if n < 128 then [(n : Int)] else (((n % 128 + 128 : Nat)) : Int) :: putN (n / 128)
termination_by n
decreasing_by omega

theorem putN_lt {n : Nat} (h : n < 128) : putN n = [(n : Int)] := by rw [putN, if_pos h]
theorem putN_ge {n : Nat} (h : ¬ n < 128) : putN n = (((n % 128 + 128 : Nat)) : Int) :: putN (n / 128) := by rw [putN, if_neg h]
theorem putN_len : ∀ (k n : Nat), n < 128 ^ (k + 1) → (putN n).length ≤ k + 1
  | 0, n, h => by
    rw [putN_lt (by simpa using h)]
    simp
  | k + 1, n, h => by
    by_cases c : n < 128
    · rw [putN_lt c]; simp
    · rw [putN_ge c]
      have q : n / 128 < 128 ^ (k + 1) := by
        apply Nat.div_lt_of_lt_mul
        rw [Nat.pow_succ, Nat.mul_comm] at h
        exact h
      have := putN_len k (n / 128) q
      simp only [List.length_cons]
      omega
theorem putN_pos (n : Nat) : 1 ≤ (putN n).length := by
  by_cases c : n < 128
  · rw [putN_lt c]; simp
  · rw [putN_ge c]; simp
theorem putN_2 {n : Nat} (h : n < 16384) : (putN n).length ≤ 2 := putN_len 1 n h
theorem putN_6 {n : Nat} (h : n < 2 ^ 42) : (putN n).length ≤ 6 := putN_len 5 n h
theorem split128 (m s : Nat) : m % 128 * s + m / 128 * (s * 128) = m * s := by
  have h := Nat.div_add_mod m 128
  have e : m / 128 * (s * 128) = 128 * (m / 128) * s := by
    rw [Nat.mul_comm s 128, ← Nat.mul_assoc, Nat.mul_comm (m / 128) 128]
  rw [e, ← Nat.add_mul, Nat.add_comm (m % 128), h]

/-! ## values -/
def okC (c : Nat) : Prop := 32 ≤ c ∧ c ≤ 126 ∧ c ≠ 37
def packD : Nat → PyData → List Int
  | _, .none => [0]
  | _, .bool b => [1 + (if b = true then 1 else 0)]
  | _, .int i => if 0 ≤ i then 3 :: putN i.toNat else 4 :: putN (-1 - i).toNat
  | _, .str s => 5 :: (putN s.length ++ s.cps.toList.map (fun c : Nat => (c : Int) - 32))
  | k + 1, .tuple ds => 6 :: (putN ds.length ++ (ds.map (packD k)).flatten)
  | _, _ => []
def OkD : Nat → PyData → Prop
  | _, .none => True
  | _, .bool _ => True
  | _, .int i => i.natAbs < 2 ^ 40
  | _, .str s => s.length ≤ 200 ∧ ∀ c ∈ s.cps.toList, okC c
  | k + 1, .tuple ds => ds.length ≤ 10 ∧ ∀ d ∈ ds, OkD k d
  | _, _ => False
theorem packD_none (k : Nat) : packD k .none = [0] := by cases k <;> rfl
theorem packD_bool (k : Nat) (b : Bool) : packD k (.bool b) = [1 + (if b = true then 1 else 0)] := by cases k <;> rfl
theorem packD_int (k : Nat) (i : Int) : packD k (.int i) = if 0 ≤ i then 3 :: putN i.toNat else 4 :: putN (-1 - i).toNat := by cases k <;> rfl
theorem packD_str (k : Nat) (s : Str) : packD k (.str s) = 5 :: (putN s.length ++ s.cps.toList.map (fun c : Nat => (c : Int) - 32)) := by cases k <;> rfl
theorem packD_tup (k : Nat) (ds : List PyData) : packD (k + 1) (.tuple ds) = 6 :: (putN ds.length ++ (ds.map (packD k)).flatten) := rfl
theorem OkD_int {k : Nat} {i : Int} (h : OkD k (.int i)) : i.natAbs < 2 ^ 40 := by cases k <;> exact h
theorem OkD_str {k : Nat} {s : Str} (h : OkD k (.str s)) : s.length ≤ 200 ∧ ∀ c ∈ s.cps.toList, okC c := by cases k <;> exact h
theorem OkD_int' {k : Nat} {i : Int} (h : i.natAbs < 2 ^ 40) : OkD k (.int i) := by cases k <;> exact h
theorem OkD_str' {k : Nat} {s : Str} (h : s.length ≤ 200) (h2 : ∀ c ∈ s.cps.toList, okC c) : OkD k (.str s) := by cases k <;> exact ⟨h, h2⟩
theorem OkD_none {k : Nat} : OkD k .none := by cases k <;> exact trivial
theorem OkD_bool {k : Nat} {b : Bool} : OkD k (.bool b) := by cases k <;> exact trivial
theorem OkD_list {k : Nat} {ds : List PyData} (h : OkD k (.list ds)) : False := by cases k <;> exact h
theorem OkD_dict {k : Nat} {ds : List (PyData × PyData)} (h : OkD k (.dict ds)) : False := by cases k <;> exact h

theorem flat_len {f : PyData → List Int} {B : Nat} : ∀ {ds : List PyData}, (∀ d ∈ ds, (f d).length ≤ B) → ((ds.map f).flatten).length ≤ ds.length * B
  | [], _ => by simp
  | d :: r, h => by
    have h1 := h d (List.mem_cons_self ..)
    have h2 := flat_len (f := f) (B := B) (ds := r) fun x hx => h x (List.mem_cons_of_mem _ hx)
    simp only [List.map_cons, List.flatten_cons, List.length_append, List.length_cons]
    rw [Nat.add_mul]
    omega
def lenB : Nat → Nat
  | 0 => 203
  | k + 1 => 2 + 10 * lenB k
theorem lenB_ge : ∀ k, 203 ≤ lenB k
  | 0 => Nat.le_refl _
  | k + 1 => by have := lenB_ge k; show 203 ≤ 2 + 10 * lenB k; omega
theorem packD_len : ∀ (k : Nat) (d : PyData), OkD k d → (packD k d).length ≤ lenB k
  | k, .none, _ => by rw [packD_none]; have := lenB_ge k; simp; omega
  | k, .bool b, _ => by rw [packD_bool]; have := lenB_ge k; simp; omega
  | k, .int i, h => by
    have h := OkD_int h
    have := lenB_ge k
    rw [packD_int]
    have h1 := @putN_6 i.toNat (by omega)
    have h2 := @putN_6 (-1 - i).toNat (by omega)
    split <;> simp only [List.length_cons] <;> omega
  | k, .str s, h => by
    have h := OkD_str h
    have := lenB_ge k
    rw [packD_str]
    have h1 := @putN_2 s.length (by omega)
    have e : s.cps.toList.length = s.length := by simp [Str.length]
    simp only [List.length_cons, List.length_append, List.length_map]
    omega
  | k, .list ds, h => (OkD_list h).elim
  | k, .dict ds, h => (OkD_dict h).elim
  | 0, .tuple ds, h => by cases h
  | k + 1, .tuple ds, h => by
    obtain ⟨h1, h2⟩ : ds.length ≤ 10 ∧ ∀ d ∈ ds, OkD k d := h
    rw [packD_tup]
    have q := flat_len (f := packD k) (B := lenB k) (ds := ds) fun d hd => packD_len k d (h2 d hd)
    have e : (putN ds.length).length = 1 := by rw [putN_lt (by omega)]; simp
    have m : ds.length * lenB k ≤ 10 * lenB k := Nat.mul_le_mul_right _ h1
    simp only [List.length_cons, List.length_append, e]
    show _ ≤ 2 + 10 * lenB k
    omega
theorem packD_pos : ∀ (k : Nat) (d : PyData), OkD k d → 1 ≤ (packD k d).length
  | k, .none, _ => by rw [packD_none]; simp
  | k, .bool b, _ => by rw [packD_bool]; simp
  | k, .int i, h => by rw [packD_int]; split <;> simp
  | k, .str s, h => by rw [packD_str]; simp
  | k, .list ds, h => (OkD_list h).elim
  | k, .dict ds, h => (OkD_dict h).elim
  | 0, .tuple ds, h => by cases h
  | k + 1, .tuple ds, h => by rw [packD_tup]; simp
theorem lenB_2 : lenB 2 = 20322 := rfl

/-! ## sectors -/
def ckStep (p : Int × Int) (b : Int) : Int × Int := ((p.1 + b + 1) % 65521, (p.2 + (p.1 + b + 1) % 65521) % 65521)
def ck (row : List Int) : Int × Int := row.foldl ckStep (1, 1)
def ckb (p : Int × Int) : List Int := [p.1 % 256, p.1 / 256, p.2 % 256, p.2 / 256]
def bodyOf (kind : Nat) (pl : List Int) : List Int := [(kind : Int), (pl.length : Int)] ++ pl ++ List.replicate (58 - pl.length) 0
def secOf (kind : Nat) (pl : List Int) : List Int := ckb (ck (bodyOf kind pl)) ++ bodyOf kind pl

inductive Sec where
  | blank
  | head (g s b : Nat)
  | part (g b i p m : Nat) (bs : List Int)
def headD (g s b : Nat) : PyData := .tuple [.int g, .int s, .int b]
def nums5 (g b i p m : Nat) : List Int := putN g ++ (putN b ++ (putN i ++ (putN p ++ putN m)))
def Sec.enc : Sec → List Int
  | .blank => List.replicate 64 0
  | .head g s b => secOf 1 (packD 1 (headD g s b))
  | .part g b i p m bs => secOf 2 (nums5 g b i p m ++ bs)
def Sec.Ok : Sec → Prop
  | .blank => True
  | .head g s b => g < 16384 ∧ s < 2 ^ 40 ∧ b < 16384
  | .part g b i p m bs => g < 16384 ∧ b < 16384 ∧ i < 16384 ∧ p < 16384 ∧ m < 16384 ∧ bs.length ≤ 40
def secD (s : Sec) : PyData := .tuple (s.enc.map PyData.int)
theorem bodyOf_len {kind : Nat} {pl : List Int} (h : pl.length ≤ 58) : (bodyOf kind pl).length = 60 := by
  simp [bodyOf]; omega
theorem secOf_len {kind : Nat} {pl : List Int} (h : pl.length ≤ 58) : (secOf kind pl).length = 64 := by
  simp [secOf, bodyOf_len h, ckb]
theorem headD_ok {g s b : Nat} (h1 : g < 16384) (h2 : s < 2 ^ 40) (h3 : b < 16384) : OkD 1 (headD g s b) := by
  refine ⟨by simp, fun d hd => ?_⟩
  simp only [List.mem_cons, List.not_mem_nil, or_false] at hd
  rcases hd with rfl | rfl | rfl <;> exact OkD_int' (by omega)
theorem headD_len {g s b : Nat} (h1 : g < 16384) (h2 : s < 2 ^ 40) (h3 : b < 16384) : (packD 1 (headD g s b)).length ≤ 58 := by
  show (packD 1 (.tuple [.int g, .int s, .int b])).length ≤ 58
  rw [packD_tup, putN_lt (by simp)]
  simp only [List.map_cons, List.map_nil, packD_int, List.flatten_cons, List.flatten_nil]
  rw [if_pos (by omega), if_pos (by omega), if_pos (by omega)]
  have a1 := @putN_6 (g : Int).toNat (by omega)
  have a2 := @putN_6 (s : Int).toNat (by omega)
  have a3 := @putN_6 (b : Int).toNat (by omega)
  simp only [List.length_cons, List.length_append, List.length_nil]
  omega
theorem nums5_len {g b i p m : Nat} (h1 : g < 16384) (h2 : b < 16384) (h3 : i < 16384) (h4 : p < 16384) (h5 : m < 16384) : (nums5 g b i p m).length ≤ 10 := by
  have a1 := putN_2 h1
  have a2 := putN_2 h2
  have a3 := putN_2 h3
  have a4 := putN_2 h4
  have a5 := putN_2 h5
  simp only [nums5, List.length_append]
  omega
theorem enc_len {s : Sec} (h : s.Ok) : s.enc.length = 64 := by
  cases s with
  | blank => simp [Sec.enc]
  | head g s b => exact secOf_len (headD_len h.1 h.2.1 h.2.2)
  | part g b i p m bs =>
    refine secOf_len ?_
    have := nums5_len h.1 h.2.1 h.2.2.1 h.2.2.2.1 h.2.2.2.2.1
    have := h.2.2.2.2.2
    simp only [List.length_append]
    omega

/-! ## disks -/
abbrev Disk := List Sec
def sat (D : Disk) (i : Nat) : Sec := D.getD i .blank
def wr (D : Disk) (i : Nat) (s : Sec) : Disk := (D ++ List.replicate (i + 1 - D.length) Sec.blank).set i s
theorem wr_len (D : Disk) (i : Nat) (s : Sec) : (wr D i s).length = max D.length (i + 1) := by
  simp [wr]; omega
theorem sat_none {D : Disk} {i : Nat} (h : D.length ≤ i) : sat D i = .blank := by
  simp [sat, List.getD, List.getElem?_eq_none h]
theorem sat_wr (D : Disk) (i : Nat) (s : Sec) (j : Nat) : sat (wr D i s) j = if j = i then s else sat D j := by
  unfold sat wr
  rw [List.getD_eq_getElem?_getD, List.getD_eq_getElem?_getD, List.getElem?_set]
  by_cases e : j = i
  · subst e
    rw [if_pos rfl, if_pos rfl, if_pos (by simp; omega)]
    rfl
  · rw [if_neg (fun q => e q.symm), if_neg e]
    by_cases c : j < D.length
    · rw [List.getElem?_append_left c]
    · rw [List.getElem?_append_right (by omega), List.getElem?_eq_none (l := D) (by omega)]
      rw [List.getElem?_replicate]
      split <;> rfl
theorem sat_ok {D : Disk} (h : ∀ x ∈ D, x.Ok) (i : Nat) : (sat D i).Ok := by
  unfold sat
  rw [List.getD_eq_getElem?_getD]
  cases e : D[i]? with
  | none => exact trivial
  | some x => exact h x (List.mem_of_getElem? e)
theorem wr_ok {D : Disk} (h : ∀ x ∈ D, x.Ok) (i : Nat) {s : Sec} (hs : s.Ok) : ∀ x ∈ wr D i s, x.Ok := by
  intro x hx
  unfold wr at hx
  rcases List.mem_or_eq_of_mem_set hx with hx | rfl
  · rcases List.mem_append.mp hx with hx | hx
    · exact h x hx
    · rw [(List.mem_replicate.mp hx).2]; exact trivial
  · exact hs

/-! ## the parts of a record -/
def nparts (row : List Int) : Nat := (row.length + 39) / 40
def piece (row : List Int) (j : Nat) : List Int := (row.drop (j * 40)).take 40
def partSec (g b ix : Nat) (row : List Int) (j : Nat) : Sec := .part g b ix j (nparts row) (piece row j)
def recSecs (g b ix : Nat) (row : List Int) : List Sec := (List.range (nparts row)).map (partSec g b ix row)
theorem recSecs_len (g b ix : Nat) (row : List Int) : (recSecs g b ix row).length = nparts row := by simp [recSecs]
theorem recSecs_get {g b ix : Nat} {row : List Int} {j : Nat} (h : j < nparts row) : (recSecs g b ix row)[j]? = some (partSec g b ix row j) := by
  simp [recSecs, h]
def rowOf (r : PyData) : List Int := packD 2 r
def allSecs (g b : Nat) : Nat → List PyData → List Sec
  | _, [] => []
  | n, r :: rs => recSecs g b n (rowOf r) ++ allSecs g b (n + 1) rs
def need : List PyData → Nat
  | [] => 0
  | r :: rs => nparts (rowOf r) + need rs
theorem allSecs_len (g b : Nat) : ∀ (n : Nat) (rs : List PyData), (allSecs g b n rs).length = need rs
  | _, [] => rfl
  | n, r :: rs => by rw [allSecs, List.length_append, recSecs_len, allSecs_len g b (n + 1) rs]; rfl
theorem allSecs_append (g b : Nat) : ∀ (n : Nat) (rs ts : List PyData), allSecs g b n (rs ++ ts) = allSecs g b n rs ++ allSecs g b (n + rs.length) ts
  | n, [], ts => by simp [allSecs]
  | n, r :: rs, ts => by
    have e : n + 1 + rs.length = n + (r :: rs).length := by simp; omega
    rw [List.cons_append, allSecs, allSecs, allSecs_append g b (n + 1) rs ts, List.append_assoc, e]
theorem need_append : ∀ (rs ts : List PyData), need (rs ++ ts) = need rs + need ts
  | [], ts => by simp [need]
  | r :: rs, ts => by rw [List.cons_append, need, need, need_append rs ts]; omega
theorem need_take_le : ∀ (rs : List PyData) (j : Nat), need (rs.take j) ≤ need rs
  | [], j => by simp [need]
  | r :: rs, 0 => by simp [need]
  | r :: rs, j + 1 => by have := need_take_le rs j; rw [List.take_succ_cons, need, need]; omega
theorem nparts_pos {r : PyData} (h : OkD 2 r) : 1 ≤ nparts (rowOf r) := by
  have := packD_pos 2 r h
  unfold nparts rowOf
  omega
theorem nparts_le {r : PyData} (h : OkD 2 r) : nparts (rowOf r) ≤ 509 := by
  have := packD_len 2 r h
  rw [lenB_2] at this
  unfold nparts rowOf
  omega
theorem need_le : ∀ {rs : List PyData}, (∀ r ∈ rs, OkD 2 r) → need rs ≤ 509 * rs.length
  | [], _ => Nat.le_refl _
  | r :: rs, h => by
    have h1 := nparts_le (h r (List.mem_cons_self ..))
    have h2 := need_le (rs := rs) fun x hx => h x (List.mem_cons_of_mem _ hx)
    rw [need, List.length_cons]
    omega
theorem piece_len (row : List Int) (j : Nat) : (piece row j).length ≤ 40 := by
  unfold piece; rw [List.length_take]; exact Nat.min_le_left _ _
theorem partSec_ok {g b ix : Nat} {r : PyData} {j : Nat} (hr : OkD 2 r) (h1 : g < 16384) (h2 : b < 16384) (h3 : ix < 16384) (h4 : j < nparts (rowOf r)) : (partSec g b ix (rowOf r) j).Ok := by
  have := nparts_le hr
  exact ⟨h1, h2, h3, by omega, by omega, piece_len _ _⟩
theorem recSecs_ok {g b ix : Nat} {r : PyData} (hr : OkD 2 r) (h1 : g < 16384) (h2 : b < 16384) (h3 : ix < 16384) : ∀ x ∈ recSecs g b ix (rowOf r), x.Ok := by
  intro x hx
  unfold recSecs at hx
  obtain ⟨j, hj, rfl⟩ := List.mem_map.mp hx
  exact partSec_ok hr h1 h2 h3 (List.mem_range.mp hj)
theorem allSecs_ok {g b : Nat} (h1 : g < 16384) (h2 : b < 16384) : ∀ (n : Nat) (rs : List PyData), (∀ r ∈ rs, OkD 2 r) → n + rs.length < 16384 → ∀ x ∈ allSecs g b n rs, x.Ok
  | _, [], _, _ => fun x hx => by cases hx
  | n, r :: rs, h, hn => fun x hx => by
    rw [allSecs] at hx
    rw [List.length_cons] at hn
    rcases List.mem_append.mp hx with hx | hx
    · exact recSecs_ok (h r (List.mem_cons_self ..)) h1 h2 (by omega) x hx
    · exact allSecs_ok h1 h2 (n + 1) rs (fun y hy => h y (List.mem_cons_of_mem _ hy)) (by omega) x hx
/-- a sector of the layout is a part with this generation, this boot and an index among the records' -/
theorem allSecs_mem {g b : Nat} : ∀ (n : Nat) (rs : List PyData) (j : Nat) (x : Sec), (allSecs g b n rs)[j]? = some x → ∃ ix p m bs, x = .part g b ix p m bs ∧ n ≤ ix ∧ ix < n + rs.length
  | _, [], j, x, h => by simp [allSecs] at h
  | n, r :: rs, j, x, h => by
    rw [allSecs, List.getElem?_append] at h
    split at h
    · obtain ⟨hl, e⟩ := List.getElem?_eq_some_iff.mp h
      simp [recSecs] at e
      refine ⟨n, _, _, _, e.symm, Nat.le_refl _, by simp⟩
    · obtain ⟨ix, p, m, bs, e, h1, h2⟩ := allSecs_mem (n + 1) rs _ x h
      exact ⟨ix, p, m, bs, e, by omega, by simp; omega⟩

/-! ## reading -/
def rdParts (D : Disk) (pl g b ix m : Nat) : Nat → Nat → List Int → Option (List Int)
  | 0, _, row => some row
  | k + 1, q, row => match sat D (pl + q) with
    | .part g' b' i' p' m' bs => if g' = g ∧ b' = b ∧ i' = ix ∧ p' = q ∧ m' = m then rdParts D pl g b ix m k (q + 1) (row ++ bs) else none
    | _ => none
def rdRec (D : Disk) (pl g ix bt : Nat) : Option (List Int × Nat × Nat) :=
  match sat D pl with
  | .part g' b' i' p' m' bs => if g' = g ∧ i' = ix ∧ p' = 0 ∧ bt ≤ b' then (rdParts D pl g b' ix m' (m' - 1) 1 bs).map (fun row => (row, b', m')) else none
  | _ => none
def Reads (D : Disk) (g : Nat) : Nat → Nat → Nat → List PyData → Nat → Prop
  | pl, ix, bt, [], e => e = pl ∧ rdRec D pl g ix bt = none
  | pl, ix, bt, r :: rs, e => ∃ b m, rdRec D pl g ix bt = some (rowOf r, b, m) ∧ OkD 2 r ∧ m = nparts (rowOf r) ∧ bt ≤ b ∧ Reads D g (pl + m) (ix + 1) b rs e
theorem Reads.cons {D : Disk} {g pl ix bt b m e : Nat} {r : PyData} {rs : List PyData} (h1 : rdRec D pl g ix bt = some (rowOf r, b, m)) (h2 : OkD 2 r) (h3 : m = nparts (rowOf r)) (h4 : bt ≤ b) (h5 : Reads D g (pl + m) (ix + 1) b rs e) : Reads D g pl ix bt (r :: rs) e := ⟨b, m, h1, h2, h3, h4, h5⟩
theorem Reads.end_eq {D : Disk} {g : Nat} : ∀ {pl ix bt : Nat} {rs : List PyData} {e : Nat}, Reads D g pl ix bt rs e → e = pl + need rs
  | pl, ix, bt, [], e, h => by simp [need, h.1]
  | pl, ix, bt, r :: rs, e, ⟨b, m, _, _, h3, _, h5⟩ => by
    have := h5.end_eq
    rw [need]
    omega
theorem Reads.ok {D : Disk} {g : Nat} : ∀ {pl ix bt : Nat} {rs : List PyData} {e : Nat}, Reads D g pl ix bt rs e → ∀ r ∈ rs, OkD 2 r
  | pl, ix, bt, [], e, h => fun r hr => by cases hr
  | pl, ix, bt, x :: rs, e, ⟨b, m, _, h2, _, _, h5⟩ => fun r hr => by
    rcases List.mem_cons.mp hr with rfl | hr
    · exact h2
    · exact h5.ok r hr

theorem rdParts_congr {D D' : Disk} {pl g b ix m : Nat} : ∀ (k q : Nat) (row : List Int), (∀ i, q ≤ i → i < q + k → sat D' (pl + i) = sat D (pl + i)) → rdParts D' pl g b ix m k q row = rdParts D pl g b ix m k q row
  | 0, q, row, _ => rfl
  | k + 1, q, row, h => by
    rw [rdParts, rdParts, h q (Nat.le_refl _) (by omega)]
    cases sat D (pl + q) with
    | blank => rfl
    | head _ _ _ => rfl
    | part g' b' i' p' m' bs =>
      dsimp only
      split
      · exact rdParts_congr k (q + 1) (row ++ bs) fun i h1 h2 => h i (by omega) (by omega)
      · rfl
theorem rdRec_congr {D D' : Disk} {pl g ix bt b m : Nat} {row : List Int} (h : rdRec D pl g ix bt = some (row, b, m)) (hm : 1 ≤ m) (hc : ∀ i, pl ≤ i → i < pl + m → sat D' i = sat D i) : rdRec D' pl g ix bt = some (row, b, m) := by
  unfold rdRec at h ⊢
  rw [hc pl (Nat.le_refl _) (by omega)]
  cases e : sat D pl with
  | blank => rw [e] at h; exact h
  | head _ _ _ => rw [e] at h; exact h
  | part g' b' i' p' m' bs =>
    rw [e] at h
    dsimp only at h ⊢
    split at h
    · rename_i c
      rw [if_pos c]
      cases e2 : rdParts D pl g b' ix m' (m' - 1) 1 bs with
      | none => rw [e2] at h; cases h
      | some r2 =>
        have em : m' = m := by rw [e2] at h; simp at h; exact h.2.2
        rw [rdParts_congr (m' - 1) 1 bs (fun i h1 h2 => hc (pl + i) (by omega) (by omega))]
        exact h
    · cases h
theorem rdRec_boot {D : Disk} {pl g ix bt b m B : Nat} {row : List Int} (h : rdRec D pl g ix bt = some (row, b, m)) (hj : ∀ i g' b1 ix p m bs, sat D i = .part g' b1 ix p m bs → b1 ≤ B) : b ≤ B := by
  unfold rdRec at h
  cases e : sat D pl with
  | blank => rw [e] at h; cases h
  | head _ _ _ => rw [e] at h; cases h
  | part g' b' i' p' m' bs =>
    rw [e] at h
    dsimp only at h
    split at h
    · cases e2 : rdParts D pl g b' ix m' (m' - 1) 1 bs with
      | none => rw [e2] at h; cases h
      | some r2 =>
        rw [e2] at h
        simp at h
        have := hj _ _ _ _ _ _ _ e
        omega
    · cases h
/-- the last step of a reading: behind it further records may follow -/
theorem Reads.app {D D' : Disk} {g B : Nat} (hj : ∀ i g' b1 ix p m bs, sat D i = .part g' b1 ix p m bs → b1 ≤ B) : ∀ {pl ix bt : Nat} {rs : List PyData} {e : Nat}, Reads D g pl ix bt rs e → bt ≤ B → (∀ i, pl ≤ i → i < e → sat D' i = sat D i) →
    ∃ bt', bt' ≤ B ∧ rdRec D e g (ix + rs.length) bt' = none ∧ ∀ ts e2, Reads D' g e (ix + rs.length) bt' ts e2 → Reads D' g pl ix bt (rs ++ ts) e2
  | pl, ix, bt, [], e, ⟨h1, h2⟩, hB, hc => by
    subst h1
    exact ⟨bt, hB, h2, fun ts e2 q => q⟩
  | pl, ix, bt, r :: rs, e, ⟨b, m, h1, h2, h3, h4, h5⟩, hB, hc => by
    have hp := nparts_pos h2
    have ee := h5.end_eq
    obtain ⟨bt', q1, q2, q3⟩ := Reads.app (D' := D') hj h5 (rdRec_boot h1 hj) fun i a1 a2 => hc i (by omega) a2
    have el : ix + (r :: rs).length = ix + 1 + rs.length := by simp; omega
    rw [el]
    refine ⟨bt', q1, q2, fun ts e2 q => ?_⟩
    exact Reads.cons (rdRec_congr h1 (by omega) fun i a1 a2 => hc i a1 (by omega)) h2 h3 h4 (q3 ts e2 q)

/-- the parts of a record, one after the other: either one of them lacks, or the row comes back -/
theorem rdParts_layout {D : Disk} {pl g b ix : Nat} {row : List Int} : ∀ (k q : Nat), q + k = nparts row → (∀ i, q ≤ i → i < nparts row → sat D (pl + i) = partSec g b ix row i) → rdParts D pl g b ix (nparts row) k q (row.take (q * 40)) = some row
  | 0, q, hq, _ => by
    rw [rdParts, List.take_of_length_le]
    unfold nparts at hq
    omega
  | k + 1, q, hq, h => by
    rw [rdParts, h q (Nat.le_refl _) (by omega)]
    unfold partSec
    dsimp only
    rw [if_pos ⟨rfl, rfl, rfl, rfl, rfl⟩]
    have e : row.take (q * 40) ++ piece row q = row.take ((q + 1) * 40) := by
      unfold piece
      rw [Nat.add_mul, List.take_add]
    rw [e]
    exact rdParts_layout k (q + 1) (by omega) fun i h1 h2 => h i (by omega) h2
theorem rdParts_or {D : Disk} {pl g b ix : Nat} {row : List Int} : ∀ (k q : Nat), q + k = nparts row →
    (∀ i, q ≤ i → i < nparts row → sat D (pl + i) = partSec g b ix row i ∨ ∀ p m bs, sat D (pl + i) ≠ .part g b ix p m bs) →
    rdParts D pl g b ix (nparts row) k q (row.take (q * 40)) = some row ∨ rdParts D pl g b ix (nparts row) k q (row.take (q * 40)) = none
  | 0, q, hq, _ => by
    left
    rw [rdParts, List.take_of_length_le]
    unfold nparts at hq
    omega
  | k + 1, q, hq, h => by
    rw [rdParts]
    rcases h q (Nat.le_refl _) (by omega) with e | e
    · rw [e]
      unfold partSec
      dsimp only
      rw [if_pos ⟨rfl, rfl, rfl, rfl, rfl⟩]
      have e2 : row.take (q * 40) ++ piece row q = row.take ((q + 1) * 40) := by
        unfold piece
        rw [Nat.add_mul, List.take_add]
      rw [e2]
      exact rdParts_or k (q + 1) (by omega) fun i h1 h2 => h i (by omega) h2
    · right
      cases e3 : sat D (pl + q) with
      | blank => rfl
      | head _ _ _ => rfl
      | part g' b' i' p' m' bs =>
        dsimp only
        split
        · rename_i c
          obtain ⟨rfl, rfl, rfl, rfl, rfl⟩ := c
          exact absurd e3 (e _ _ _)
        · rfl
/-- what is read behind a change, was there before, where the changed sectors have another mark -/
theorem rdParts_back {D D' : Disk} {pl g b ix m : Nat} : ∀ (k q : Nat) (row r : List Int), (∀ i p bs, sat D' (pl + i) = .part g b ix p m bs → sat D (pl + i) = sat D' (pl + i)) → rdParts D' pl g b ix m k q row = some r → rdParts D pl g b ix m k q row = some r
  | 0, q, row, r, _, h => h
  | k + 1, q, row, r, hb, h => by
    rw [rdParts] at h ⊢
    cases e : sat D' (pl + q) with
    | blank => rw [e] at h; cases h
    | head _ _ _ => rw [e] at h; cases h
    | part g' b' i' p' m' bs =>
      rw [e] at h
      dsimp only at h
      split at h
      · rename_i c
        obtain ⟨rfl, rfl, rfl, rfl, rfl⟩ := c
        rw [hb p' p' bs e, e]
        dsimp only
        rw [if_pos ⟨rfl, rfl, rfl, rfl, rfl⟩]
        exact rdParts_back k (p' + 1) (row ++ bs) r hb h
      · cases h
end Mj
set_option Elab.async false
set_option linter.all false
namespace Mj
open PySem

/-! ## what the changed sectors look like -/
/-- every part has a boot of at most b; one of boot b has a generation of at most g; and of generation g an index below n -/
def J1 (D : Disk) (b g n : Nat) : Prop := ∀ i g' b' ix p m bs, sat D i = .part g' b' ix p m bs → b' ≤ b ∧ (b' = b → g' ≤ g ∧ (g' = g → ix < n))

/-- no record is complete here, and the changed sectors (of boot b, and of another generation or of an index from n on) don't complete one: first sector old -/
theorem stop_old {D D' : Disk} {e g n bt b : Nat} (j : J1 D b g n) (h0 : rdRec D e g n bt = none)
    (hc : ∀ i, sat D' i = sat D i ∨ ∃ g2 ix p m bs, sat D' i = .part g2 b ix p m bs) (he : sat D' e = sat D e) : rdRec D' e g n bt = none := by
  unfold rdRec at h0 ⊢
  rw [he]
  cases q : sat D e with
  | blank => rfl
  | head _ _ _ => rfl
  | part g' b' i' p' m' bs =>
    rw [q] at h0
    dsimp only at h0 ⊢
    split
    · rename_i c
      rw [if_pos c] at h0
      obtain ⟨rfl, rfl, rfl, hb⟩ := c
      have jj := j e _ _ _ _ _ _ q
      have nb : b' ≠ b := fun z => absurd ((jj.2 z).2 rfl) (Nat.lt_irrefl _)
      cases r : rdParts D' e g' b' i' m' (m' - 1) 1 bs with
      | none => rfl
      | some row =>
        have z := rdParts_back (D := D) (D' := D') (m' - 1) 1 bs row (fun i p bs2 ei => by
          rcases hc (e + i) with h | ⟨g2, ix, p2, m2, bs3, h⟩
          · exact h.symm
          · rw [h] at ei
            injection ei with _ h2
            exact absurd h2.symm nb) r
        rw [z] at h0
        cases h0
    · rfl
/-- the same where the sector is new and of another generation -/
theorem stop_gen {D' : Disk} {e g n bt : Nat} (he : ∀ b' p m bs, sat D' e ≠ .part g b' n p m bs) : rdRec D' e g n bt = none := by
  unfold rdRec
  cases q : sat D' e with
  | blank => rfl
  | head _ _ _ => rfl
  | part g' b' i' p' m' bs =>
    dsimp only
    split
    · rename_i c
      obtain ⟨rfl, rfl, rfl, hb⟩ := c
      exact absurd q (he _ _ _ _)
    · rfl
/-- behind the newest records of the newest boot nothing is complete -/
theorem stop_j1 {D : Disk} {e g n b : Nat} (j : J1 D b g n) : rdRec D e g n b = none := by
  unfold rdRec
  cases q : sat D e with
  | blank => rfl
  | head _ _ _ => rfl
  | part g' b' i' p' m' bs =>
    dsimp only
    split
    · rename_i c
      obtain ⟨rfl, rfl, rfl, hb⟩ := c
      have jj := j e _ _ _ _ _ _ q
      exact absurd ((jj.2 (by omega)).2 rfl) (Nat.lt_irrefl _)
    · rfl
theorem J1.mono {D : Disk} {b g n n' : Nat} (j : J1 D b g n) (h : n ≤ n') : J1 D b g n' := fun i g' b' ix p m bs q =>
  ⟨(j i _ _ _ _ _ _ q).1, fun z => ⟨((j i _ _ _ _ _ _ q).2 z).1, fun y => Nat.lt_of_lt_of_le (((j i _ _ _ _ _ _ q).2 z).2 y) h⟩⟩

/-- where the parts of a record may have been written: it is complete, or nothing is read -/
theorem rec_or {D D' : Disk} {e g n bt b : Nat} {r : PyData} (j : J1 D b g n) (hr : OkD 2 r) (hb : bt ≤ b) (h0 : rdRec D e g n bt = none)
    (hc : ∀ i, sat D' i = sat D i ∨ ∃ g2 ix p m bs, sat D' i = .part g2 b ix p m bs)
    (hl : ∀ i, i < nparts (rowOf r) → sat D' (e + i) = sat D (e + i) ∨ sat D' (e + i) = partSec g b n (rowOf r) i) :
    rdRec D' e g n bt = none ∨ rdRec D' e g n bt = some (rowOf r, b, nparts (rowOf r)) := by
  have hp := nparts_pos hr
  rcases hl 0 (by omega) with h | h
  · exact .inl (stop_old j h0 hc h)
  · have e1 : sat D' e = partSec g b n (rowOf r) 0 := h
    unfold rdRec
    rw [e1]
    unfold partSec
    dsimp only
    rw [if_pos ⟨rfl, rfl, rfl, hb⟩]
    have e2 : piece (rowOf r) 0 = (rowOf r).take (1 * 40) := by simp [piece]
    rw [e2]
    rcases rdParts_or (D := D') (pl := e) (g := g) (b := b) (ix := n) (row := rowOf r) (nparts (rowOf r) - 1) 1 (by omega) (fun i h1 h2 => by
      rcases hl i h2 with h | h
      · right
        intro p m bs z
        rw [h] at z
        have jj := j _ _ _ _ _ _ _ z
        exact absurd ((jj.2 rfl).2 rfl) (Nat.lt_irrefl _)
      · exact .inl h) with q | q
    · right; rw [q]; rfl
    · left; rw [q]; rfl
/-- it is complete where all parts were written -/
theorem rec_all {D : Disk} {e g n bt b : Nat} {r : PyData} (hr : OkD 2 r) (hb : bt ≤ b) (hl : ∀ i, i < nparts (rowOf r) → sat D (e + i) = partSec g b n (rowOf r) i) :
    rdRec D e g n bt = some (rowOf r, b, nparts (rowOf r)) := by
  have hp := nparts_pos hr
  have e1 : sat D e = partSec g b n (rowOf r) 0 := hl 0 (by omega)
  unfold rdRec
  rw [e1]
  unfold partSec
  dsimp only
  rw [if_pos ⟨rfl, rfl, rfl, hb⟩]
  have e2 : piece (rowOf r) 0 = (rowOf r).take (1 * 40) := by simp [piece]
  rw [e2, rdParts_layout (nparts (rowOf r) - 1) 1 (by omega) fun i _ h2 => hl i h2]
  rfl
theorem all_get_l {g b n : Nat} {r : PyData} {rs : List PyData} {i : Nat} (h : i < nparts (rowOf r)) : (allSecs g b n (r :: rs))[i]? = some (partSec g b n (rowOf r) i) := by
  rw [allSecs, List.getElem?_append_left (by rw [recSecs_len]; exact h), recSecs_get h]
theorem all_get_r {g b n : Nat} {r : PyData} {rs : List PyData} (i : Nat) : (allSecs g b n (r :: rs))[nparts (rowOf r) + i]? = (allSecs g b (n + 1) rs)[i]? := by
  rw [allSecs, List.getElem?_append_right (by rw [recSecs_len]; omega), recSecs_len]
  congr 1
  omega
/-- an append that was interrupted: the first ones of its records are read -/
theorem app_part {D D' : Disk} {g b : Nat} : ∀ (rs : List PyData) (e n bt : Nat), (∀ r ∈ rs, OkD 2 r) → J1 D b g n → bt ≤ b → rdRec D e g n bt = none →
    (∀ i, sat D' i = sat D i ∨ ∃ g2 ix p m bs, sat D' i = .part g2 b ix p m bs) →
    (∀ i, sat D' (e + i) = sat D (e + i) ∨ (allSecs g b n rs)[i]? = some (sat D' (e + i))) →
    ∃ j e', j ≤ rs.length ∧ Reads D' g e n bt (rs.take j) e'
  | [], e, n, bt, _, j1, hb, h0, hc, hl => ⟨0, e, Nat.le_refl _, rfl, stop_old j1 h0 hc (by
      rcases hl 0 with h | h
      · exact h
      · simp [allSecs] at h)⟩
  | r :: rs, e, n, bt, ok, j1, hb, h0, hc, hl => by
    have hr := ok r (List.mem_cons_self ..)
    rcases rec_or j1 hr hb h0 hc (fun i hi => by
      rcases hl i with h | h
      · exact .inl h
      · rw [all_get_l hi] at h
        exact .inr (Option.some.inj h).symm) with q | q
    · exact ⟨0, e, Nat.zero_le _, rfl, q⟩
    · obtain ⟨j, e', hj, hR⟩ := app_part rs (e + nparts (rowOf r)) (n + 1) b (fun x hx => ok x (List.mem_cons_of_mem _ hx)) (j1.mono (Nat.le_succ _)) (Nat.le_refl _) (stop_j1 (j1.mono (Nat.le_succ _))) hc (fun i => by
        have := hl (nparts (rowOf r) + i)
        rw [all_get_r, ← Nat.add_assoc] at this
        exact this)
      exact ⟨j + 1, e', Nat.succ_le_succ hj, Reads.cons q hr rfl hb hR⟩
/-- an append that was carried out whole -/
theorem app_all {D : Disk} {g b : Nat} : ∀ (rs : List PyData) (e n bt : Nat), (∀ r ∈ rs, OkD 2 r) → bt ≤ b → rs ≠ [] →
    (∀ i s, (allSecs g b n rs)[i]? = some s → sat D (e + i) = s) → rdRec D (e + need rs) g (n + rs.length) b = none → Reads D g e n bt rs (e + need rs)
  | [], e, n, bt, _, hb, z, _, _ => absurd rfl z
  | r :: rs, e, n, bt, ok, hb, _, hl, hs => by
    have hr := ok r (List.mem_cons_self ..)
    have q := rec_all (D := D) (e := e) (g := g) (n := n) (bt := bt) (b := b) hr hb fun i hi => hl i _ (all_get_l hi)
    refine Reads.cons q hr rfl hb ?_
    have ee : e + need (r :: rs) = e + nparts (rowOf r) + need rs := by rw [need]; omega
    have el : n + (r :: rs).length = n + 1 + rs.length := by simp; omega
    rw [ee, el] at hs
    rw [ee]
    by_cases z : rs = []
    · subst z
      exact ⟨rfl, hs⟩
    · refine app_all rs _ _ _ (fun x hx => ok x (List.mem_cons_of_mem _ hx)) (Nat.le_refl _) z (fun i s h => ?_) hs
      have := hl (nparts (rowOf r) + i) s
      rw [all_get_r, ← Nat.add_assoc] at this
      exact this h

/-! ## the heads -/
def Heads (D : Disk) (g s hb : Nat) : Prop :=
  (g = 0 ∧ s = 2 ∧ hb = 0 ∧ sat D 0 = .blank ∧ sat D 1 = .blank) ∨
  (1 ≤ g ∧ sat D (g % 2) = .head g s hb ∧ (sat D ((g + 1) % 2) = .blank ∨ ∃ g0 s0 b0, sat D ((g + 1) % 2) = .head g0 s0 b0 ∧ g0 < g))
theorem Heads.congr {D D' : Disk} {g s hb : Nat} (h : Heads D g s hb) (h0 : sat D' 0 = sat D 0) (h1 : sat D' 1 = sat D 1) : Heads D' g s hb := by
  have hx : ∀ k, sat D' (k % 2) = sat D (k % 2) := fun k => by
    have : k % 2 = 0 ∨ k % 2 = 1 := by omega
    rcases this with e | e <;> rw [e] <;> assumption
  rcases h with ⟨a, b, c, d, e⟩ | ⟨a, b, c⟩
  · exact .inl ⟨a, b, c, by rw [h0]; exact d, by rw [h1]; exact e⟩
  · refine .inr ⟨a, by rw [hx]; exact b, ?_⟩
    rw [hx]
    exact c
theorem Heads.next {D D' : Disk} {g s hb s' b : Nat} (h : Heads D g s hb) (h1 : sat D' ((g + 1) % 2) = .head (g + 1) s' b) (h2 : sat D' (g % 2) = sat D (g % 2)) : Heads D' (g + 1) s' b := by
  refine .inr ⟨Nat.succ_pos _, h1, ?_⟩
  have e : (g + 1 + 1) % 2 = g % 2 := by omega
  rw [e, h2]
  rcases h with ⟨a, b, c, d, e⟩ | ⟨a, b, c⟩
  · left
    subst a
    exact d
  · exact .inr ⟨g, s, hb, b, Nat.lt_succ_self _⟩
/-- the sectors 0 and 1 bear heads or are blank -/
def IsHd : Sec → Prop
  | .part _ _ _ _ _ _ => False
  | _ => True
theorem Heads.hd {D : Disk} {g s hb : Nat} (h : Heads D g s hb) : IsHd (sat D 0) ∧ IsHd (sat D 1) := by
  have : ∀ x, IsHd (sat D (x % 2)) → IsHd (sat D ((x + 1) % 2)) → IsHd (sat D 0) ∧ IsHd (sat D 1) := fun x h1 h2 => by
    have : x % 2 = 0 ∨ x % 2 = 1 := by omega
    rcases this with e | e
    · have e2 : (x + 1) % 2 = 1 := by omega
      rw [e] at h1; rw [e2] at h2; exact ⟨h1, h2⟩
    · have e2 : (x + 1) % 2 = 0 := by omega
      rw [e] at h1; rw [e2] at h2; exact ⟨h2, h1⟩
  rcases h with ⟨a, b, c, d, e⟩ | ⟨a, b, c⟩
  · rw [d, e]; exact ⟨trivial, trivial⟩
  · refine this g (by rw [b]; exact trivial) ?_
    rcases c with c | ⟨_, _, _, c, _⟩ <;> rw [c] <;> exact trivial
/-- the newest head, as the program takes it -/
def nhStep (p : Nat × Nat × Nat) : Sec → Nat × Nat × Nat
  | .head g s b => if p.1 < g then (g, s, b) else p
  | _ => p
def nh (D : Disk) : Nat × Nat × Nat := nhStep (nhStep (0, 2, 0) (sat D 0)) (sat D 1)
theorem Heads.nh {D : Disk} {g s hb : Nat} (h : Heads D g s hb) : nh D = (g, s, hb) := by
  unfold Mj.nh
  rcases h with ⟨a, b, c, d, e⟩ | ⟨a, b, c⟩
  · subst a b c
    rw [d, e]
    rfl
  · have : g % 2 = 0 ∨ g % 2 = 1 := by omega
    rcases this with e | e
    · have e2 : (g + 1) % 2 = 1 := by omega
      rw [e] at b; rw [e2] at c
      rw [b]
      have q : nhStep (0, 2, 0) (Sec.head g s hb) = (g, s, hb) := by unfold nhStep; dsimp only; rw [if_pos (by omega)]
      rw [q]
      rcases c with c | ⟨g0, s0, b0, c, hg⟩
      · rw [c]; rfl
      · rw [c]
        unfold nhStep
        dsimp only
        rw [if_neg (by omega)]
    · have e2 : (g + 1) % 2 = 0 := by omega
      rw [e] at b; rw [e2] at c
      rw [b]
      rcases c with c | ⟨g0, s0, b0, c, hg⟩
      · rw [c]
        show nhStep (0, 2, 0) (Sec.head g s hb) = _
        unfold nhStep; dsimp only; rw [if_pos (by omega)]
      · rw [c]
        have q : (nhStep (0, 2, 0) (Sec.head g0 s0 b0)).1 ≤ g0 := by
          unfold nhStep; dsimp only
          split
          · exact Nat.le_refl _
          · exact Nat.zero_le _
        generalize nhStep (0, 2, 0) (Sec.head g0 s0 b0) = p at q
        show (if p.1 < g then (g, s, hb) else p) = _
        rw [if_pos (by omega)]

/-! ## between two turns of the law -/
structure St0 (D : Disk) (b g s e : Nat) (rs : List PyData) : Prop where
  ok : ∀ x ∈ D, x.Ok
  j1 : J1 D b g rs.length
  rd : ∃ hb, hb ≤ b ∧ Heads D g s hb ∧ Reads D g s 0 hb rs e
  s2 : 2 ≤ s
theorem St0.end_eq {D : Disk} {b g s e : Nat} {rs : List PyData} (h : St0 D b g s e rs) : e = s + need rs := by
  obtain ⟨hb, _, _, r⟩ := h.rd
  exact r.end_eq
theorem St0.recs {D : Disk} {b g s e : Nat} {rs : List PyData} (h : St0 D b g s e rs) : ∀ r ∈ rs, OkD 2 r := by
  obtain ⟨hb, _, _, r⟩ := h.rd
  exact r.ok
/-- a greater boot -/
theorem St0.boot {D : Disk} {b b' g s e : Nat} {rs : List PyData} (ok : ∀ x ∈ D, x.Ok) (hj : ∀ i g' b1 ix p m bs, sat D i = .part g' b1 ix p m bs → b1 ≤ b) (h : b < b') (rd : ∃ hb, hb ≤ b ∧ Heads D g s hb ∧ Reads D g s 0 hb rs e) (s2 : 2 ≤ s) : St0 D b' g s e rs := by
  obtain ⟨hb, h1, h2, h3⟩ := rd
  refine ⟨ok, fun i g' b1 ix p m bs q => ?_, ⟨hb, by omega, h2, h3⟩, s2⟩
  have := hj i _ _ _ _ _ _ q
  exact ⟨by omega, fun z => by omega⟩
theorem St0.empty : St0 [] 1 0 2 2 [] := by
  refine ⟨(fun x hx => nomatch hx), (fun i g' b' ix p m bs q => ?_), ⟨0, by omega, .inl ⟨rfl, rfl, rfl, rfl, rfl⟩, rfl, rfl⟩, Nat.le_refl _⟩
  rw [sat_none (Nat.zero_le _)] at q
  cases q

/-! ## the steps, and a machine that fails -/
/-- D' stands between D and the layout L from the place p on -/
def Mix (D D' : Disk) (p : Nat) (L : List Sec) : Prop := ∀ i, sat D' i = sat D i ∨ (p ≤ i ∧ L[i - p]? = some (sat D' i))
def Full (D D' : Disk) (p : Nat) (L : List Sec) : Prop := ∀ i, (i < p → sat D' i = sat D i) ∧ (p ≤ i → match L[i - p]? with | some s => sat D' i = s | none => sat D' i = sat D i)
theorem Full.mix {D D' : Disk} {p : Nat} {L : List Sec} (h : Full D D' p L) : Mix D D' p L := fun i => by
  by_cases c : p ≤ i
  · have q := (h i).2 c
    cases e : L[i - p]? with
    | none => rw [e] at q; exact .inl q
    | some s => rw [e] at q; exact .inr ⟨c, by rw [q]⟩
  · exact .inl ((h i).1 (by omega))
theorem Mix.low {D D' : Disk} {p : Nat} {L : List Sec} (h : Mix D D' p L) {i : Nat} (hi : i < p) : sat D' i = sat D i := by
  rcases h i with q | ⟨q, _⟩
  · exact q
  · omega
theorem Mix.high {D D' : Disk} {p : Nat} {L : List Sec} (h : Mix D D' p L) {i : Nat} (hi : p + L.length ≤ i) : sat D' i = sat D i := by
  rcases h i with q | ⟨q, r⟩
  · exact q
  · rw [List.getElem?_eq_none (by omega)] at r
    cases r
theorem Mix.new {D D' : Disk} {p g b n : Nat} {rs : List PyData} (h : Mix D D' p (allSecs g b n rs)) (i : Nat) : sat D' i = sat D i ∨ ∃ ix q m bs, sat D' i = .part g b ix q m bs ∧ n ≤ ix ∧ ix < n + rs.length := by
  rcases h i with q | ⟨q, r⟩
  · exact .inl q
  · exact .inr (allSecs_mem n rs _ _ r)
theorem Mix.ok {D D' : Disk} {p : Nat} {L : List Sec} (h : Mix D D' p L) (ok : ∀ x ∈ D, x.Ok) (okL : ∀ x ∈ L, x.Ok) : ∀ x ∈ D', x.Ok := fun x hx => by
  obtain ⟨i, hi, e⟩ := List.mem_iff_getElem.mp hx
  have es : sat D' i = x := by
    unfold sat
    rw [List.getD_eq_getElem?_getD, List.getElem?_eq_getElem hi, e]
    rfl
  rcases h i with q | ⟨_, q⟩
  · rw [← es, q]
    exact sat_ok ok i
  · rw [← es]
    exact okL _ (List.mem_of_getElem? q)
theorem Mix.boot {D D' : Disk} {p g b n : Nat} {rs : List PyData} {g0 n0 : Nat} (h : Mix D D' p (allSecs g b n rs)) (j : J1 D b g0 n0) : ∀ i g' b1 ix p m bs, sat D' i = .part g' b1 ix p m bs → b1 ≤ b := fun i g' b1 ix q m bs e => by
  rcases h.new i with r | ⟨ix2, q2, m2, bs2, r, _⟩
  · rw [r] at e
    exact (j _ _ _ _ _ _ _ e).1
  · rw [r] at e
    injection e with _ h2
    omega

theorem J1.boot {D : Disk} {b g n : Nat} (j : J1 D b g n) : ∀ i g' b1 ix p m bs, sat D i = .part g' b1 ix p m bs → b1 ≤ b := fun i _ _ _ _ _ _ q => (j i _ _ _ _ _ _ q).1
/-- an append is interrupted -/
theorem crash_append {D D' : Disk} {b g s e b' : Nat} {rs add : List PyData} (h : St0 D b g s e rs) (ok : ∀ r ∈ add, OkD 2 r) (hM : Mix D D' e (allSecs g b rs.length add)) (hb : b < b') (hg : g < 16384) (hb2 : b < 16384) (hn : rs.length + add.length < 16384) :
    ∃ j, j ≤ add.length ∧ St0 D' b' g s (e + need (add.take j)) (rs ++ add.take j) := by
  obtain ⟨h1, h2, ⟨hb0, h3, h4, h5⟩, h6⟩ := h
  have ee := h5.end_eq
  obtain ⟨bt', q1, q2, q3⟩ := Reads.app (D' := D') h2.boot h5 h3 fun i a1 a2 => hM.low a2
  rw [Nat.zero_add] at q2 q3
  have fin : ∀ ts e2, Reads D' g e rs.length bt' ts e2 → ∃ hb, hb ≤ b ∧ Heads D' g s hb ∧ Reads D' g s 0 hb (rs ++ ts) e2 := fun ts e2 r =>
    ⟨hb0, h3, h4.congr (hM.low (by omega)) (hM.low (by omega)), q3 ts e2 r⟩
  have okL := allSecs_ok hg hb2 rs.length add ok hn
  obtain ⟨j, e', hj, hR⟩ := app_part add e rs.length bt' ok h2 q1 q2 (fun i => by
    rcases hM.new i with r | ⟨ix, q, m, bs, r, _⟩
    · exact .inl r
    · exact .inr ⟨g, ix, q, m, bs, r⟩) (fun i => by
    rcases hM (e + i) with r | ⟨_, r⟩
    · exact .inl r
    · rw [Nat.add_sub_cancel_left] at r
      exact .inr r)
  have e2 := hR.end_eq
  subst e2
  exact ⟨j, hj, St0.boot (hM.ok h1 okL) (hM.boot h2) hb (fin _ _ hR) h6⟩
/-- an append is carried out whole -/
theorem full_append {D D' : Disk} {b g s e : Nat} {rs add : List PyData} (h : St0 D b g s e rs) (ok : ∀ r ∈ add, OkD 2 r) (hF : Full D D' e (allSecs g b rs.length add)) (hg : g < 16384) (hb2 : b < 16384) (hn : rs.length + add.length < 16384) :
    St0 D' b g s (e + need add) (rs ++ add) := by
  obtain ⟨h1, h2, ⟨hb0, h3, h4, h5⟩, h6⟩ := h
  have hM := hF.mix
  have ee := h5.end_eq
  obtain ⟨bt', q1, q2, q3⟩ := Reads.app (D' := D') h2.boot h5 h3 fun i a1 a2 => hM.low a2
  rw [Nat.zero_add] at q2 q3
  have okL := allSecs_ok hg hb2 rs.length add ok hn
  have jN : J1 D' b g (rs.length + add.length) := fun i g' b1 ix p m bs q => by
    rcases hM.new i with r | ⟨ix2, q2, m2, bs2, r, r1, r2⟩
    · rw [r] at q
      exact (h2.mono (Nat.le_add_right _ _)) _ _ _ _ _ _ _ q
    · rw [r] at q
      injection q with a1 a2 a3
      subst a1 a2 a3
      exact ⟨Nat.le_refl _, fun _ => ⟨Nat.le_refl _, fun _ => r2⟩⟩
  have tail : Reads D' g e rs.length bt' add (e + need add) := by
    by_cases z : add = []
    · subst z
      have eD : ∀ i, sat D' i = sat D i := fun i => by
        rcases hM i with r | ⟨_, r⟩
        · exact r
        · simp [allSecs] at r
      exact ⟨rfl, stop_old h2 q2 (fun i => .inl (eD i)) (eD e)⟩
    · refine app_all add e rs.length bt' ok q1 z (fun i s h => ?_) (stop_j1 jN)
      have := (hF (e + i)).2 (Nat.le_add_right _ _)
      rw [Nat.add_sub_cancel_left, h] at this
      exact this
  refine ⟨hM.ok h1 okL, by rw [List.length_append]; exact jN, ⟨hb0, h3, h4.congr (hM.low (by omega)) (hM.low (by omega)), q3 _ _ tail⟩, h6⟩

/-- where a rewrite begins -/
def startOf (s e : Nat) (add : List PyData) : Nat := if need add ≤ s - 2 then 2 else e
theorem startOf_2 {s e : Nat} {add : List PyData} (h2 : 2 ≤ s) (he : s ≤ e) : 2 ≤ startOf s e add := by unfold startOf; split <;> omega
theorem startOf_off {s e : Nat} {add : List PyData} (h2 : 2 ≤ s) {i : Nat} (h : s ≤ i) (h' : i < e) : i < startOf s e add ∨ startOf s e add + need add ≤ i := by unfold startOf; split <;> omega
/-- a rewrite is interrupted ahead of the write of its head, or that write is lost -/
theorem crash_rewrite {D D' : Disk} {b g s e b' : Nat} {rs add : List PyData} (h : St0 D b g s e rs) (ok : ∀ r ∈ add, OkD 2 r) (hM : Mix D D' (startOf s e add) (allSecs (g + 1) b 0 add)) (hb : b < b') (hg : g + 1 < 16384) (hb2 : b < 16384) (hn : add.length < 16384) :
    St0 D' b' g s e rs := by
  obtain ⟨h1, h2, ⟨hb0, h3, h4, h5⟩, h6⟩ := h
  have ee := h5.end_eq
  have s2 := startOf_2 (add := add) h6 (show s ≤ e by omega)
  obtain ⟨bt', q1, q2, q3⟩ := Reads.app (D' := D') h2.boot h5 h3 fun i a1 a2 => by
    rcases startOf_off (add := add) h6 a1 a2 with c | c
    · exact hM.low c
    · exact hM.high (by rw [allSecs_len]; exact c)
  rw [Nat.zero_add] at q2 q3
  have okL := allSecs_ok hg hb2 0 add ok (by omega)
  have stop : rdRec D' e g rs.length bt' = none := by
    rcases hM.new e with r | ⟨ix, q, m, bs, r, _⟩
    · exact stop_old h2 q2 (fun i => by
        rcases hM.new i with r | ⟨ix, q, m, bs, r, _⟩
        · exact .inl r
        · exact .inr ⟨_, ix, q, m, bs, r⟩) r
    · refine stop_gen fun b1 p1 m1 bs1 z => ?_
      rw [r] at z
      injection z with z1
      omega
  have fin := q3 [] e ⟨rfl, stop⟩
  rw [List.append_nil] at fin
  exact St0.boot (hM.ok h1 okL) (hM.boot h2) hb ⟨hb0, h3, h4.congr (hM.low (by omega)) (hM.low (by omega)), fin⟩ h6
/-- a rewrite whose head is written -/
theorem full_rewrite {D D' D2 : Disk} {b g s e : Nat} {rs add : List PyData} (h : St0 D b g s e rs) (ok : ∀ r ∈ add, OkD 2 r) (hF : Full D D' (startOf s e add) (allSecs (g + 1) b 0 add))
    (hH : ∀ i, sat D2 i = if i = (g + 1) % 2 then .head (g + 1) (startOf s e add) b else sat D' i) (hok : ∀ x ∈ D2, x.Ok) (hg : g + 1 < 16384) (hb2 : b < 16384) (hn : add.length < 16384) :
    St0 D2 b (g + 1) (startOf s e add) (startOf s e add + need add) add := by
  obtain ⟨h1, h2, ⟨hb0, h3, h4, h5⟩, h6⟩ := h
  have hM := hF.mix
  have ee := h5.end_eq
  have s2 := startOf_2 (add := add) h6 (show s ≤ e by omega)
  have g2 : (g + 1) % 2 < 2 := Nat.mod_lt _ (by decide)
  have j2 : J1 D2 b (g + 1) add.length := fun i g' b1 ix p m bs q => by
    rw [hH] at q
    split at q
    · cases q
    · rcases hM.new i with r | ⟨ix2, q2, m2, bs2, r, r1, r2⟩
      · rw [r] at q
        have := h2 _ _ _ _ _ _ _ q
        exact ⟨this.1, fun z => ⟨Nat.le_succ_of_le (this.2 z).1, fun y => by have := (this.2 z).1; omega⟩⟩
      · rw [r] at q
        injection q with a1 a2 a3
        subst a1 a2 a3
        exact ⟨Nat.le_refl _, fun _ => ⟨Nat.le_refl _, fun _ => by omega⟩⟩
  have hi : ∀ i, 2 ≤ i → sat D2 i = sat D' i := fun i hi => by rw [hH, if_neg (by omega)]
  refine ⟨hok, j2, ⟨b, Nat.le_refl _, ?_, ?_⟩, s2⟩
  · refine h4.next (by rw [hH, if_pos rfl]) ?_
    rw [hH, if_neg (by omega)]
    exact hM.low (by omega)
  · by_cases z : add = []
    · subst z
      exact ⟨rfl, stop_j1 j2⟩
    · refine app_all add _ 0 b ok (Nat.le_refl _) z (fun i y h => ?_) (stop_j1 (by rw [Nat.zero_add]; exact j2))
      rw [hi _ (by omega)]
      have := (hF (startOf s e add + i)).2 (Nat.le_add_right _ _)
      rw [Nat.add_sub_cancel_left, h] at this
      exact this
end Mj
set_option Elab.async false
set_option linter.all false
namespace Mj
open PySem

/-! ## steps -/
inductive Stp where
  | w (i : Nat) (s : Sec)
  | sync
def stpD : Stp → PyData
  | .w i s => .tuple [.str "write", .int i, secD s]
  | .sync => .tuple [.str "sync"]
def writes : Nat → List Sec → List Stp
  | _, [] => []
  | p, s :: ss => .w p s :: writes (p + 1) ss
theorem writes_len : ∀ (p : Nat) (ss : List Sec), (writes p ss).length = ss.length
  | _, [] => rfl
  | p, s :: ss => congrArg Nat.succ (writes_len (p + 1) ss)
theorem writes_append : ∀ (p : Nat) (a b : List Sec), writes p (a ++ b) = writes p a ++ writes (p + a.length) b
  | p, [], b => by simp [writes]
  | p, s :: a, b => by
    rw [List.cons_append, writes, writes_append (p + 1) a b, writes, List.length_cons, List.cons_append, show p + 1 + a.length = p + (a.length + 1) by omega]
theorem writes_take : ∀ (p n : Nat) (ss : List Sec), (writes p ss).take n = writes p (ss.take n)
  | p, 0, ss => by simp [writes]
  | p, n + 1, [] => by simp [writes]
  | p, n + 1, s :: ss => by rw [writes, List.take_succ_cons, List.take_succ_cons, writes, writes_take (p + 1) n ss]

/-! ## running them: what is safe, and what is written since -/
abbrev Uns := List (Nat × Sec)
def wrAll (D : Disk) (U : Uns) : Disk := U.foldl (fun D q => wr D q.1 q.2) D
def stp1 (x : Disk × Uns) : Stp → Disk × Uns
  | .w i s => (x.1, x.2 ++ [(i, s)])
  | .sync => (wrAll x.1 x.2, [])
def run (x : Disk × Uns) (ss : List Stp) : Disk × Uns := ss.foldl stp1 x
/-- no sector is written twice between two syncs -/
def Once : Uns → List Stp → Prop
  | _, [] => True
  | U, .w i s :: r => i ∉ U.map (·.1) ∧ Once (U ++ [(i, s)]) r
  | _, .sync :: r => Once [] r
theorem run_append (x : Disk × Uns) (a b : List Stp) : run x (a ++ b) = run (run x a) b := by unfold run; rw [List.foldl_append]
def idxd : Nat → List Sec → Uns
  | _, [] => []
  | p, s :: ss => (p, s) :: idxd (p + 1) ss
theorem idxd_len : ∀ (p : Nat) (ss : List Sec), (idxd p ss).length = ss.length
  | _, [] => rfl
  | p, s :: ss => congrArg Nat.succ (idxd_len (p + 1) ss)
theorem idxd_get : ∀ (p : Nat) (ss : List Sec) (k : Nat), (idxd p ss)[k]? = (ss[k]?).map fun s => (p + k, s)
  | _, [], k => by simp [idxd]
  | p, s :: ss, 0 => by simp [idxd]
  | p, s :: ss, k + 1 => by
    show (idxd (p + 1) ss)[k]? = ((s :: ss)[k + 1]?).map fun s => (p + (k + 1), s)
    rw [idxd_get (p + 1) ss k, List.getElem?_cons_succ, show p + 1 + k = p + (k + 1) by omega]
theorem run_writes : ∀ (p : Nat) (ss : List Sec) (D : Disk) (U : Uns), run (D, U) (writes p ss) = (D, U ++ idxd p ss)
  | p, [], D, U => by simp [writes, run, idxd]
  | p, s :: ss, D, U => by
    show run (D, U ++ [(p, s)]) (writes (p + 1) ss) = _
    rw [run_writes (p + 1) ss D (U ++ [(p, s)]), List.append_assoc]
    rfl
theorem once_writes : ∀ (p : Nat) (ss : List Sec) (U : Uns) (r : List Stp), (∀ q ∈ U, q.1 < p) → Once (U ++ idxd p ss) r → Once U (writes p ss ++ r)
  | p, [], U, r, _, h => by simpa [writes, idxd] using h
  | p, s :: ss, U, r, hU, h => by
    refine ⟨fun hm => ?_, once_writes (p + 1) ss (U ++ [(p, s)]) r (fun q hq => ?_) ?_⟩
    · obtain ⟨q, hq, e⟩ := List.mem_map.mp hm
      have := hU q hq
      omega
    · rcases List.mem_append.mp hq with hq | hq
      · have := hU q hq
        omega
      · rw [List.mem_singleton.mp hq]
        exact Nat.lt_succ_self _
    · rw [List.append_assoc]
      exact h
theorem Once.take : ∀ (ss : List Stp) (U : Uns) (n : Nat), Once U ss → Once U (ss.take n)
  | [], U, n, h => by simp [Once]
  | .w i s :: r, U, 0, h => trivial
  | .sync :: r, U, 0, h => trivial
  | .w i s :: r, U, n + 1, h => ⟨h.1, Once.take r _ n h.2⟩
  | .sync :: r, U, n + 1, h => Once.take r [] n h
/-- some of what was written since the last sync is kept -/
def fallN (D : Disk) (U : Uns) (ch : Nat → Bool) : Nat → Disk
  | 0 => D
  | k + 1 => match U[k]? with
    | some q => if ch k = true then wr (fallN D U ch k) q.1 q.2 else fallN D U ch k
    | none => fallN D U ch k
theorem fallN_nil (D : Disk) (ch : Nat → Bool) : ∀ k, fallN D [] ch k = D
  | 0 => rfl
  | k + 1 => by rw [fallN]; simp [fallN_nil D ch k]
theorem fallN_mix {D : Disk} {p : Nat} {ss : List Sec} {ch : Nat → Bool} : ∀ k, Mix D (fallN D (idxd p ss) ch k) p ss
  | 0 => fun i => .inl rfl
  | k + 1 => by
    have ih := fallN_mix (D := D) (p := p) (ss := ss) (ch := ch) k
    rw [fallN, idxd_get]
    cases e : ss[k]? with
    | none => exact ih
    | some s =>
      show Mix D (if ch k = true then wr (fallN D (idxd p ss) ch k) (p + k) s else fallN D (idxd p ss) ch k) p ss
      split
      · intro i
        rw [sat_wr]
        by_cases c : i = p + k
        · rw [if_pos c]
          refine .inr ⟨by omega, ?_⟩
          rw [c, Nat.add_sub_cancel_left, e]
        · rw [if_neg c]
          exact ih i
      · exact ih
theorem wrAll_sat : ∀ (p : Nat) (ss : List Sec) (D : Disk) (i : Nat), sat (wrAll D (idxd p ss)) i = if p ≤ i then (match ss[i - p]? with | some s => s | none => sat D i) else sat D i
  | p, [], D, i => by simp [idxd, wrAll]
  | p, s :: ss, D, i => by
    show sat (wrAll (wr D p s) (idxd (p + 1) ss)) i = _
    rw [wrAll_sat (p + 1) ss (wr D p s) i, sat_wr]
    by_cases c : i = p
    · subst c
      rw [if_neg (by omega), if_pos rfl, if_pos (Nat.le_refl _), Nat.sub_self]
      rfl
    · rw [if_neg c]
      by_cases c2 : p ≤ i
      · rw [if_pos c2, if_pos (by omega)]
        have e : i - p = (i - (p + 1)) + 1 := by omega
        rw [e, List.getElem?_cons_succ]
      · rw [if_neg c2, if_neg (by omega)]
theorem wrAll_full (D : Disk) (p : Nat) (ss : List Sec) : Full D (wrAll D (idxd p ss)) p ss := fun i => by
  rw [wrAll_sat]
  refine ⟨fun h => by rw [if_neg (by omega)], fun h => ?_⟩
  rw [if_pos h]
  cases e : ss[i - p]? <;> rfl
theorem fallN_len {D : Disk} {U : Uns} {ch : Nat → Bool} {B : Nat} (hD : D.length ≤ B) (hU : ∀ q ∈ U, q.1 < B) : ∀ k, (fallN D U ch k).length ≤ B
  | 0 => hD
  | k + 1 => by
    have ih := fallN_len (ch := ch) hD hU k
    rw [fallN]
    cases e : U[k]? with
    | none => exact ih
    | some q =>
      have hq := hU q (List.mem_of_getElem? e)
      show (if ch k = true then wr (fallN D U ch k) q.1 q.2 else fallN D U ch k).length ≤ B
      split
      · rw [wr_len]; omega
      · exact ih
theorem wrAll_len {B : Nat} : ∀ (U : Uns) {D : Disk}, D.length ≤ B → (∀ q ∈ U, q.1 < B) → (wrAll D U).length ≤ B
  | [], D, h, _ => h
  | q :: U, D, h, hU => by
    show (wrAll (wr D q.1 q.2) U).length ≤ B
    refine wrAll_len U ?_ fun x hx => hU x (List.mem_cons_of_mem _ hx)
    have := hU q (List.mem_cons_self ..)
    rw [wr_len]
    omega
theorem idxd_lt {p : Nat} {ss : List Sec} {B : Nat} (h : p + ss.length ≤ B) : ∀ q ∈ idxd p ss, q.1 < B := fun q hq => by
  obtain ⟨k, hk⟩ := List.mem_iff_getElem?.mp hq
  rw [idxd_get] at hk
  cases e : ss[k]? with
  | none => rw [e] at hk; cases hk
  | some s =>
    rw [e] at hk
    have e2 : (p + k, s) = q := Option.some.inj hk
    have := (List.getElem?_eq_some_iff.mp e).1
    rw [← e2]
    show p + k < B
    omega

/-! ## the steps of an append and of a rewrite, run in part or whole -/
def appSteps (e : Nat) (L : List Sec) (ne : Bool) : List Stp := writes e L ++ (if ne = true then [.sync] else [])
def rewSteps (p : Nat) (L : List Sec) (h : Nat) (hd : Sec) : List Stp := writes p L ++ [.sync, .w h hd, .sync]
theorem app_once (e : Nat) (L : List Sec) (ne : Bool) : Once [] (appSteps e L ne) := by
  refine once_writes e L [] _ (fun q hq => nomatch hq) ?_
  cases ne <;> exact trivial
theorem rew_once (p : Nat) (L : List Sec) (h : Nat) (hd : Sec) : Once [] (rewSteps p L h hd) := by
  refine once_writes p L [] _ (fun q hq => nomatch hq) ?_
  exact ⟨fun hm => (nomatch hm), trivial⟩
theorem app_whole (D : Disk) (e : Nat) (L : List Sec) : run (D, []) (appSteps e L true) = (wrAll D (idxd e L), []) := by
  unfold appSteps
  rw [run_append, run_writes]
  rfl
theorem take_app {α : Type} (a b : List α) (n : Nat) : (a ++ b).take n = if n ≤ a.length then a.take n else a ++ b.take (n - a.length) := by
  split
  · rw [List.take_append_of_le_length (by assumption)]
  · rw [List.take_append, List.take_of_length_le (by omega)]
theorem app_part_run (D : Disk) (e : Nat) (L : List Sec) (ne : Bool) (n : Nat) (h : n < (appSteps e L ne).length ∨ ne = false) : run (D, []) ((appSteps e L ne).take n) = (D, idxd e (L.take n)) := by
  unfold appSteps at h ⊢
  rw [take_app, writes_len]
  split
  · rw [writes_take, run_writes]; rfl
  · cases ne with
    | true =>
      exfalso
      rcases h with h | h
      · rw [List.length_append, writes_len] at h
        simp at h
        omega
      · cases h
    | false =>
      rw [if_neg (by decide)]
      simp only [List.take_nil, List.append_nil]
      rw [run_writes, List.take_of_length_le (by omega)]
      rfl
theorem rew_part_run (D : Disk) (p : Nat) (L : List Sec) (h : Nat) (hd : Sec) (n : Nat) (hn : n ≤ L.length) : run (D, []) ((rewSteps p L h hd).take n) = (D, idxd p (L.take n)) := by
  unfold rewSteps
  rw [take_app, writes_len, if_pos hn, writes_take, run_writes]
  rfl
theorem rew_part1 (D : Disk) (p : Nat) (L : List Sec) (h : Nat) (hd : Sec) : run (D, []) ((rewSteps p L h hd).take (L.length + 1)) = (wrAll D (idxd p L), []) := by
  unfold rewSteps
  rw [take_app, writes_len, if_neg (by omega), Nat.add_sub_cancel_left, run_append, run_writes]
  rfl
theorem rew_part2 (D : Disk) (p : Nat) (L : List Sec) (h : Nat) (hd : Sec) : run (D, []) ((rewSteps p L h hd).take (L.length + 2)) = (wrAll D (idxd p L), [(h, hd)]) := by
  unfold rewSteps
  rw [take_app, writes_len, if_neg (by omega), Nat.add_sub_cancel_left, run_append, run_writes]
  rfl
theorem rew_whole (D : Disk) (p : Nat) (L : List Sec) (h : Nat) (hd : Sec) : run (D, []) (rewSteps p L h hd) = (wr (wrAll D (idxd p L)) h hd, []) := by
  unfold rewSteps
  rw [run_append, run_writes]
  rfl
theorem rew_len (p : Nat) (L : List Sec) (h : Nat) (hd : Sec) : (rewSteps p L h hd).length = L.length + 3 := by
  unfold rewSteps
  rw [List.length_append, writes_len]
  rfl
theorem Mix.of_take {D D' : Disk} {p n : Nat} {L : List Sec} (h : Mix D D' p (L.take n)) : Mix D D' p L := fun i => by
  rcases h i with q | ⟨q, r⟩
  · exact .inl q
  · refine .inr ⟨q, ?_⟩
    rw [List.getElem?_take] at r
    split at r
    · exact r
    · cases r
theorem wrAll_ok : ∀ (U : Uns) {D : Disk}, (∀ x ∈ D, x.Ok) → (∀ q ∈ U, q.2.Ok) → ∀ x ∈ wrAll D U, x.Ok
  | [], D, h, _ => h
  | q :: U, D, h, hU => wrAll_ok U (wr_ok h q.1 (hU q (List.mem_cons_self ..))) fun x hx => hU x (List.mem_cons_of_mem _ hx)
theorem idxd_ok {p : Nat} {L : List Sec} (h : ∀ x ∈ L, x.Ok) : ∀ q ∈ idxd p L, q.2.Ok := fun q hq => by
  obtain ⟨k, hk⟩ := List.mem_iff_getElem?.mp hq
  rw [idxd_get] at hk
  cases e : L[k]? with
  | none => rw [e] at hk; cases hk
  | some s =>
    rw [e] at hk
    have e2 : (p + k, s) = q := Option.some.inj hk
    rw [← e2]
    exact h s (List.mem_of_getElem? e)
end Mj
set_option Elab.async false
set_option linter.all false
namespace Mj
open PySem
/-! ## a turn of the law: what the change plans, and what is there behind it or behind a failure -/
def planSS (rw : Bool) (b g s e : Nat) (rs add : List PyData) : List Stp :=
  if rw = true then rewSteps (startOf s e add) (allSecs (g + 1) b 0 add) ((g + 1) % 2) (.head (g + 1) (startOf s e add) b) else appSteps e (allSecs g b rs.length add) (!add.isEmpty)
def planR (rw : Bool) (rs add : List PyData) : List PyData := if rw = true then add else rs ++ add
def planG (rw : Bool) (g : Nat) : Nat := if rw = true then g + 1 else g
def planS (rw : Bool) (s e : Nat) (add : List PyData) : Nat := if rw = true then startOf s e add else s
def planE (rw : Bool) (s e : Nat) (add : List PyData) : Nat := if rw = true then startOf s e add + need add else e + need add
def Poss0 (ra rb rc : List PyData) (rw : Bool) : Prop := ra = rb ∨ ra = rc ∨ (rw = false ∧ rb.length ≤ ra.length ∧ ra.length ≤ rc.length ∧ ra = rc.take ra.length)
/-- the bounds that the turns keep -/
structure Bds (D : Disk) (b g e : Nat) (rs : List PyData) (i : Nat) : Prop where
  b : b ≤ 1 + 4 * i
  g : g ≤ i
  n : rs.length ≤ 3 * i
  e : e ≤ 2 + 1527 * i
  d : D.length ≤ 2 + 1527 * i
theorem startOf_le {s e : Nat} {add : List PyData} (h2 : 2 ≤ s) (he : s ≤ e) : startOf s e add ≤ e := by unfold startOf; split <;> omega
theorem plan_once (rw : Bool) (b g s e : Nat) (rs add : List PyData) : Once [] (planSS rw b g s e rs add) := by
  unfold planSS
  cases rw
  · exact app_once ..
  · exact rew_once ..
theorem writes_mem : ∀ {p : Nat} {L : List Sec} {i : Nat} {s : Sec}, Stp.w i s ∈ writes p L → i < p + L.length
  | p, [], i, s, h => nomatch h
  | p, x :: L, i, s, h => by
    rcases List.mem_cons.mp h with h | h
    · injection h with h1 h2
      subst h1
      simp
    · have := writes_mem h
      simp
      omega
theorem plan_bd {rw : Bool} {b g s e : Nat} {rs add : List PyData} {B : Nat} (h2 : 2 ≤ s) (he : s ≤ e) (hB : e + need add ≤ B) : ∀ i x, Stp.w i x ∈ planSS rw b g s e rs add → i < B := fun i x h => by
  unfold planSS at h
  have hs := startOf_le (add := add) h2 he
  cases rw with
  | false =>
    rw [if_neg (by decide)] at h
    unfold appSteps at h
    rcases List.mem_append.mp h with h | h
    · have := writes_mem h
      rw [allSecs_len] at this
      omega
    · split at h <;> simp at h
  | true =>
    rw [if_pos rfl] at h
    unfold rewSteps at h
    rcases List.mem_append.mp h with h | h
    · have := writes_mem h
      rw [allSecs_len] at this
      omega
    · simp at h
      have : (g + 1) % 2 < 2 := Nat.mod_lt _ (by decide)
      omega
theorem plan_len {rw : Bool} {b g s e : Nat} {rs add : List PyData} : (planSS rw b g s e rs add).length ≤ need add + 3 := by
  unfold planSS
  cases rw with
  | false =>
    rw [if_neg (by decide)]
    unfold appSteps
    rw [List.length_append, writes_len, allSecs_len]
    split <;> simp
  | true =>
    rw [if_pos rfl, rew_len, allSecs_len]
    omega
theorem idx0_len (D : Disk) (e : Nat) : wrAll D (idxd e []) = D := rfl
theorem St0.up {D : Disk} {b b' g s e : Nat} {rs : List PyData} (h : St0 D b g s e rs) (hb : b < b') : St0 D b' g s e rs := St0.boot h.ok h.j1.boot hb h.rd h.s2
theorem plan_whole {D : Disk} {rw : Bool} {b g s e : Nat} {rs add : List PyData} (h : St0 D b g s e rs) (ok : ∀ r ∈ add, OkD 2 r) (hg : g + 1 < 16384) (hb : b < 16384) (hn : rs.length + add.length < 16384) (he : e ≤ 1000000) :
    St0 (run (D, []) (planSS rw b g s e rs add)).1 b (planG rw g) (planS rw s e add) (planE rw s e add) (planR rw rs add) := by
  unfold planSS planG planS planE planR
  cases rw with
  | false =>
    rw [if_neg (by decide), if_neg (by decide), if_neg (by decide), if_neg (by decide), if_neg (by decide)]
    cases add with
    | nil =>
      have e1 : appSteps e (allSecs g b rs.length []) (!([] : List PyData).isEmpty) = [] := rfl
      rw [e1, List.append_nil]
      exact h
    | cons y ys =>
      have e1 : (!(y :: ys).isEmpty) = true := rfl
      rw [e1, app_whole]
      exact full_append h ok (wrAll_full _ _ _) (by omega) hb hn
  | true =>
    rw [if_pos rfl, if_pos rfl, if_pos rfl, if_pos rfl, if_pos rfl, rew_whole]
    have okL := allSecs_ok hg hb 0 add ok (by omega)
    have hs : 2 ≤ startOf s e add := startOf_2 h.s2 (by have := h.end_eq; omega)
    refine full_rewrite h ok (wrAll_full D (startOf s e add) (allSecs (g + 1) b 0 add)) (fun i => sat_wr _ _ _ _) ?_ hg hb (by omega)
    have hle := startOf_le (add := add) h.s2 (show s ≤ e by have := h.end_eq; omega)
    exact wr_ok (wrAll_ok _ h.ok (idxd_ok okL)) _ ⟨hg, by omega, hb⟩
theorem planR_len (rw : Bool) (rs add : List PyData) : (planR rw rs add).length ≤ rs.length + add.length := by
  unfold planR
  split
  · omega
  · rw [List.length_append]; exact Nat.le_refl _
theorem plan_crash {D : Disk} {rw : Bool} {b b' g s e : Nat} {rs add : List PyData} (h : St0 D b g s e rs) (ok : ∀ r ∈ add, OkD 2 r) (hg : g + 1 < 16384) (hb : b < 16384) (hn : rs.length + add.length < 16384) (he : e ≤ 1000000)
    (n : Nat) (hnl : n ≤ (planSS rw b g s e rs add).length) (ch : Nat → Bool) (hb' : b < b') :
    ∃ g3 s3 e3 rs3, St0 (fallN (run (D, []) ((planSS rw b g s e rs add).take n)).1 (run (D, []) ((planSS rw b g s e rs add).take n)).2 ch (run (D, []) ((planSS rw b g s e rs add).take n)).2.length) b' g3 s3 e3 rs3 ∧
      Poss0 rs3 (if n = (planSS rw b g s e rs add).length then planR rw rs add else rs) (planR rw rs add) rw ∧ g3 ≤ g + 1 ∧ e3 ≤ e + need add ∧ rs3.length ≤ rs.length + add.length := by
  by_cases hall : n = (planSS rw b g s e rs add).length
  · -- all steps were carried out
    rw [if_pos hall, List.take_of_length_le (by omega)]
    have w := plan_whole (rw := rw) h ok hg hb hn he
    have u : (run (D, []) (planSS rw b g s e rs add)).2 = [] ∨ add = [] ∧ rw = false := by
      unfold planSS
      cases rw with
      | false =>
        rw [if_neg (by decide)]
        cases add with
        | nil => exact .inr ⟨rfl, rfl⟩
        | cons y ys =>
          have e1 : (!(y :: ys).isEmpty) = true := rfl
          rw [e1, app_whole]
          exact .inl rfl
      | true => rw [if_pos rfl, rew_whole]; exact .inl rfl
    have u2 : (run (D, []) (planSS rw b g s e rs add)).2 = [] := by
      rcases u with u | ⟨rfl, rfl⟩
      · exact u
      · rfl
    rw [u2]
    have hse : s ≤ e := by have := h.end_eq; omega
    have hle := startOf_le (add := add) h.s2 hse
    refine ⟨_, _, _, _, w.up hb', .inl rfl, ?_, ?_, planR_len rw rs add⟩
    · unfold planG; split <;> omega
    · unfold planE; split <;> omega
  · rw [if_neg hall]
    have hlt : n < (planSS rw b g s e rs add).length := by omega
    cases rw with
    | false =>
      have ep : planSS false b g s e rs add = appSteps e (allSecs g b rs.length add) (!add.isEmpty) := rfl
      have er : planR false rs add = rs ++ add := rfl
      rw [ep] at hlt ⊢
      rw [er, app_part_run _ _ _ _ _ (.inl hlt)]
      obtain ⟨j, hj, hS⟩ := crash_append h ok (fallN_mix (D := D) (p := e) (ss := (allSecs g b rs.length add).take n) (ch := ch) (idxd e ((allSecs g b rs.length add).take n)).length).of_take hb' (by omega) hb hn
      refine ⟨_, _, _, _, hS, .inr (.inr ⟨rfl, by rw [List.length_append]; omega, ?_, ?_⟩), by omega, ?_, ?_⟩
      · rw [List.length_append, List.length_append, List.length_take]; omega
      · have e2 : (rs ++ add.take j).length = rs.length + j := by rw [List.length_append, List.length_take]; omega
        rw [e2, List.take_append, List.take_of_length_le (l := rs) (by omega), Nat.add_sub_cancel_left]
      · have := need_take_le add j
        omega
      · rw [List.length_append, List.length_take]; omega
    | true =>
      have ep : planSS true b g s e rs add = rewSteps (startOf s e add) (allSecs (g + 1) b 0 add) ((g + 1) % 2) (.head (g + 1) (startOf s e add) b) := rfl
      have er : planR true rs add = add := rfl
      rw [ep] at hlt ⊢
      rw [er]
      rw [rew_len] at hlt
      have hse : s ≤ e := by have := h.end_eq; omega
      have hle := startOf_le (add := add) h.s2 hse
      have okL := allSecs_ok hg hb 0 add ok (by omega)
      have fin : ∀ D', Mix D D' (startOf s e add) (allSecs (g + 1) b 0 add) → ∃ g3 s3 e3 rs3, St0 D' b' g3 s3 e3 rs3 ∧ Poss0 rs3 rs add true ∧ g3 ≤ g + 1 ∧ e3 ≤ e + need add ∧ rs3.length ≤ rs.length + add.length := fun D' hM =>
        ⟨g, s, e, rs, crash_rewrite h ok hM hb' hg hb (by omega), .inl rfl, by omega, by omega, by omega⟩
      by_cases c1 : n ≤ (allSecs (g + 1) b 0 add).length
      · rw [rew_part_run _ _ _ _ _ _ c1]
        exact fin _ (fallN_mix _).of_take
      by_cases c2 : n = (allSecs (g + 1) b 0 add).length + 1
      · rw [c2, rew_part1]
        exact fin _ (by
          show Mix D (fallN (wrAll D (idxd (startOf s e add) (allSecs (g + 1) b 0 add))) [] ch 0) _ _
          exact (wrAll_full D _ _).mix)
      have c3 : n = (allSecs (g + 1) b 0 add).length + 2 := by omega
      rw [c3, rew_part2]
      have ef : fallN (wrAll D (idxd (startOf s e add) (allSecs (g + 1) b 0 add))) [((g + 1) % 2, Sec.head (g + 1) (startOf s e add) b)] ch 1 =
          if ch 0 = true then wr (wrAll D (idxd (startOf s e add) (allSecs (g + 1) b 0 add))) ((g + 1) % 2) (.head (g + 1) (startOf s e add) b) else wrAll D (idxd (startOf s e add) (allSecs (g + 1) b 0 add)) := rfl
      show ∃ g3 s3 e3 rs3, St0 (fallN (wrAll D (idxd (startOf s e add) (allSecs (g + 1) b 0 add))) [((g + 1) % 2, Sec.head (g + 1) (startOf s e add) b)] ch 1) b' g3 s3 e3 rs3 ∧ _
      rw [ef]
      split
      · have w := full_rewrite h ok (wrAll_full D (startOf s e add) (allSecs (g + 1) b 0 add)) (fun i => sat_wr _ _ _ _) (wr_ok (wrAll_ok _ h.ok (idxd_ok okL)) _ ⟨hg, by omega, hb⟩) hg hb (by omega)
        exact ⟨_, _, _, _, w.up hb', .inr (.inl rfl), Nat.le_refl _, by omega, by omega⟩
      · exact fin _ (wrAll_full D _ _).mix
end Mj
set_option Elab.async false
set_option linter.all false
set_option maxRecDepth 100000
set_option maxHeartbeats 4000000
namespace Mj
open PySem L2
/-! ## the text by places -/
def topS (i : Nat) : Stmt := PySem.Challenge.pw_majordomo_k10_whole_falls_of_a_journal.main.body.getD i (.Pass ⟨0, 0, 0, 0⟩)
abbrev sPut : Stmt := topS 10
theorem scPut : FnScope ["number", "row"] ["number"] (defScope sPut) := ⟨rfl, rfl, rfl, by decide +kernel, rfl, by decide +kernel, by decide +kernel⟩
abbrev sTakeN : Stmt := topS 11
theorem scTakeN : FnScope ["row", "index", "number", "scale", "count", "byte"] ["row", "index"] (defScope sTakeN) := ⟨rfl, rfl, rfl, by decide +kernel, rfl, by decide +kernel, by decide +kernel⟩
abbrev sIsStr : Stmt := topS 17
theorem scIsStr : FnScope ["value", "char"] ["value"] (defScope sIsStr) := ⟨rfl, rfl, rfl, by decide +kernel, rfl, by decide +kernel, by decide +kernel⟩
abbrev sIsVW : Stmt := topS 18
theorem scIsVW : FnScope ["value", "depth", "member"] ["value", "depth"] (defScope sIsVW) := ⟨rfl, rfl, rfl, by decide +kernel, rfl, by decide +kernel, by decide +kernel⟩
abbrev sIsV : Stmt := topS 19
theorem scIsV : FnScope ["value"] ["value"] (defScope sIsV) := ⟨rfl, rfl, rfl, by decide +kernel, rfl, by decide +kernel, by decide +kernel⟩
abbrev sPackI : Stmt := topS 20
theorem scPackI : FnScope ["row", "value", "char", "member"] ["row", "value"] (defScope sPackI) := ⟨rfl, rfl, rfl, by decide +kernel, rfl, by decide +kernel, by decide +kernel⟩
abbrev sPack : Stmt := topS 21
theorem scPack : FnScope ["value", "row"] ["value"] (defScope sPack) := ⟨rfl, rfl, rfl, by decide +kernel, rfl, by decide +kernel, by decide +kernel⟩
abbrev sTakeI : Stmt := topS 22
theorem scTakeI : FnScope ["row", "index", "negative", "number"] ["row", "index", "negative"] (defScope sTakeI) := ⟨rfl, rfl, rfl, by decide +kernel, rfl, by decide +kernel, by decide +kernel⟩
abbrev sTakeL : Stmt := topS 23
theorem scTakeL : FnScope ["row", "index", "length"] ["row", "index"] (defScope sTakeL) := ⟨rfl, rfl, rfl, by decide +kernel, rfl, by decide +kernel, by decide +kernel⟩
abbrev sTakeS : Stmt := topS 24
theorem scTakeS : FnScope ["row", "index", "length", "chars", "at"] ["row", "index"] (defScope sTakeS) := ⟨rfl, rfl, rfl, by decide +kernel, rfl, by decide +kernel, by decide +kernel⟩
abbrev sTakeT : Stmt := topS 25
theorem scTakeT : FnScope ["row", "index", "depth", "length", "members", "_", "member"] ["row", "index", "depth"] (defScope sTakeT) := ⟨rfl, rfl, rfl, by decide +kernel, rfl, by decide +kernel, by decide +kernel⟩
abbrev sTakeV : Stmt := topS 26
theorem scTakeV : FnScope ["row", "index", "depth", "tag"] ["row", "index", "depth"] (defScope sTakeV) := ⟨rfl, rfl, rfl, by decide +kernel, rfl, by decide +kernel, by decide +kernel⟩
abbrev sUnpack : Stmt := topS 27
theorem scUnpack : FnScope ["row", "value", "index"] ["row"] (defScope sUnpack) := ⟨rfl, rfl, rfl, by decide +kernel, rfl, by decide +kernel, by decide +kernel⟩
abbrev sCk : Stmt := topS 30
theorem scCk : FnScope ["row", "start", "first", "second", "byte"] ["row", "start"] (defScope sCk) := ⟨rfl, rfl, rfl, by decide +kernel, rfl, by decide +kernel, by decide +kernel⟩
abbrev sCkb : Stmt := topS 31
theorem scCkb : FnScope ["pair", "first", "second"] ["pair"] (defScope sCkb) := ⟨rfl, rfl, rfl, by decide +kernel, rfl, by decide +kernel, by decide +kernel⟩
abbrev sMkSec : Stmt := topS 36
theorem scMkSec : FnScope ["kind", "payload", "body"] ["kind", "payload"] (defScope sMkSec) := ⟨rfl, rfl, rfl, by decide +kernel, rfl, by decide +kernel, by decide +kernel⟩
abbrev sRdSec : Stmt := topS 37
theorem scRdSec : FnScope ["sector", "body", "kind", "size"] ["sector"] (defScope sRdSec) := ⟨rfl, rfl, rfl, by decide +kernel, rfl, by decide +kernel, by decide +kernel⟩
abbrev sPartsN : Stmt := topS 43
theorem scPartsN : FnScope ["record"] ["record"] (defScope sPartsN) := ⟨rfl, rfl, rfl, by decide +kernel, rfl, by decide +kernel, by decide +kernel⟩
abbrev sSecAt : Stmt := topS 44
theorem scSecAt : FnScope ["sectors", "index"] ["sectors", "index"] (defScope sSecAt) := ⟨rfl, rfl, rfl, by decide +kernel, rfl, by decide +kernel, by decide +kernel⟩
abbrev sRdHead : Stmt := topS 45
theorem scRdHead : FnScope ["sectors", "index", "found", "kind", "payload"] ["sectors", "index"] (defScope sRdHead) := ⟨rfl, rfl, rfl, by decide +kernel, rfl, by decide +kernel, by decide +kernel⟩
abbrev sNewHead : Stmt := topS 46
theorem scNewHead : FnScope ["sectors", "newest", "index", "head"] ["sectors"] (defScope sNewHead) := ⟨rfl, rfl, rfl, by decide +kernel, rfl, by decide +kernel, by decide +kernel⟩
abbrev sRdPart : Stmt := topS 47
theorem scRdPart : FnScope ["sectors", "index", "found", "payload", "numbers", "at", "_", "number"] ["sectors", "index"] (defScope sRdPart) := ⟨rfl, rfl, rfl, by decide +kernel, rfl, by decide +kernel, by decide +kernel⟩
abbrev sRdRec : Stmt := topS 48
theorem scRdRec : FnScope ["sectors", "place", "generation", "index", "boot", "first", "numbers", "row", "part", "found"] ["sectors", "place", "generation", "index", "boot"] (defScope sRdRec) := ⟨rfl, rfl, rfl, by decide +kernel, rfl, by decide +kernel, by decide +kernel⟩
abbrev sRdRecs : Stmt := topS 49
theorem scRdRecs : FnScope ["sectors", "head", "generation", "place", "boot", "records", "found"] ["sectors", "head"] (defScope sRdRecs) := ⟨rfl, rfl, rfl, by decide +kernel, rfl, by decide +kernel, by decide +kernel⟩
abbrev sChkRecs : Stmt := topS 50
theorem scChkRecs : FnScope ["records", "record"] ["records"] (defScope sChkRecs) := ⟨rfl, rfl, rfl, by decide +kernel, rfl, by decide +kernel, by decide +kernel⟩
abbrev sPartW : Stmt := topS 51
theorem scPartW : FnScope ["record", "place", "numbers", "row", "many", "writes", "part", "payload", "number"] ["record", "place", "numbers"] (defScope sPartW) := ⟨rfl, rfl, rfl, by decide +kernel, rfl, by decide +kernel, by decide +kernel⟩
abbrev sJInit : Stmt := inClass (topS 52) 0
theorem scJInit : FnScope ["self", "sectors", "boot", "head", "records", "end"] ["self", "sectors", "boot"] (defScope sJInit) := ⟨rfl, rfl, rfl, by decide +kernel, rfl, by decide +kernel, by decide +kernel⟩
abbrev sJRecs : Stmt := inClass (topS 52) 1
theorem scJRecs : FnScope ["self"] ["self"] (defScope sJRecs) := ⟨rfl, rfl, rfl, by decide +kernel, rfl, by decide +kernel, by decide +kernel⟩
abbrev sJApp : Stmt := inClass (topS 52) 3
theorem scJApp : FnScope ["self", "records", "steps", "record", "numbers"] ["self", "records"] (defScope sJApp) := ⟨rfl, rfl, rfl, by decide +kernel, rfl, by decide +kernel, by decide +kernel⟩
abbrev sJRew : Stmt := inClass (topS 52) 4
theorem scJRew : FnScope ["self", "records", "needed", "record", "start", "generation", "steps", "index", "place", "payload"] ["self", "records"] (defScope sJRew) := ⟨rfl, rfl, rfl, by decide +kernel, rfl, by decide +kernel, by decide +kernel⟩
abbrev sDraws : Stmt := topS 54
theorem scDraws : FnScope ["_law_script", "_law_many", "_law_draws_here", "_law_mixed", "_law_k", "_law_cell", "_law_rest", "_law_turn"] ["_law_script", "_law_many"] (defScope sDraws) := ⟨rfl, rfl, rfl, by decide +kernel, rfl, by decide +kernel, by decide +kernel⟩
abbrev sRecord : Stmt := topS 55
theorem scRecord : FnScope ["_law_draws_here", "_law_kind", "_law_word", "_law_draw"] ["_law_draws_here"] (defScope sRecord) := ⟨rfl, rfl, rfl, by decide +kernel, rfl, by decide +kernel, by decide +kernel⟩
abbrev sLWrite : Stmt := topS 56
theorem scLWrite : FnScope ["_law_disk", "_law_index", "_law_sector", "_law_grown"] ["_law_disk", "_law_index", "_law_sector"] (defScope sLWrite) := ⟨rfl, rfl, rfl, by decide +kernel, rfl, by decide +kernel, by decide +kernel⟩
abbrev sLStep : Stmt := topS 59
theorem scLStep : FnScope ["_law_disk", "_law_unsafe", "_law_step_here", "_law_index", "_law_contents", "_law_kept", "_law_found"] ["_law_disk", "_law_unsafe", "_law_step_here"] (defScope sLStep) := ⟨rfl, rfl, rfl, by decide +kernel, rfl, by decide +kernel, by decide +kernel⟩
abbrev sLFall : Stmt := topS 60
theorem scLFall : FnScope ["_law_disk", "_law_unsafe", "_law_draws_here", "_law_left", "_law_k", "_law_index", "_law_contents", "_law_choice"] ["_law_disk", "_law_unsafe", "_law_draws_here"] (defScope sLFall) := ⟨rfl, rfl, rfl, by decide +kernel, rfl, by decide +kernel, by decide +kernel⟩
abbrev sLRun : Stmt := topS 61
theorem scLRun : FnScope ["_law_disk", "_law_steps", "_law_count", "_law_unsafe", "_law_step_here"] ["_law_disk", "_law_steps", "_law_count"] (defScope sLRun) := ⟨rfl, rfl, rfl, by decide +kernel, rfl, by decide +kernel, by decide +kernel⟩
abbrev sLPoss : Stmt := topS 62
theorem scLPoss : FnScope ["_law_actual", "_law_before", "_law_after", "_law_rewrites"] ["_law_actual", "_law_before", "_law_after", "_law_rewrites"] (defScope sLPoss) := ⟨rfl, rfl, rfl, by decide +kernel, rfl, by decide +kernel, by decide +kernel⟩
abbrev sLOpens : Stmt := topS 63
theorem scLOpens : FnScope ["_law_disk", "_law_boot", "_law_before", "_law_after", "_law_rewrites", "_law_first"] ["_law_disk", "_law_boot", "_law_before", "_law_after", "_law_rewrites"] (defScope sLOpens) := ⟨rfl, rfl, rfl, by decide +kernel, rfl, by decide +kernel, by decide +kernel⟩
abbrev sLaw : Stmt := topS 64
theorem scLaw : FnScope ["_law_script", "_law_draws_here", "_law_boot", "_law_disk", "_law_records", "_law_journal", "_law_turn", "_law_part", "_law_added", "_law_rewrites", "_law_after", "_law_steps", "_law_count", "_law_left", "_law_before", "_law_k"] ["_law_script"] (defScope sLaw) := ⟨rfl, rfl, rfl, by decide +kernel, rfl, by decide +kernel, by decide +kernel⟩
/-! ## what stands behind the top -/
def GC (mg : Str → Option Value) (x : Str) (v : V) : Prop := ∃ u, mg x = some u ∧ RelV v u
/-- the signs by their numbers: from the space on, the sixth one the space again -/
def chars : Str := ⟨((List.range 95).map fun i => if i = 5 then 32 else i + 32).toArray⟩
structure Txt (K : PySem.W.Frag) (mg : Str → Option Value) (C : Addr) : Prop where
  b_range : mg "range" = none
  b_len : mg "len" = none
  b_isinstance : mg "isinstance" = none
  b_str : mg "str" = none
  b_bool : mg "bool" = none
  b_int : mg "int" = none
  b_tuple : mg "tuple" = none
  b_list : mg "list" = none
  b_ord : mg "ord" = none
  b_abs : mg "abs" = none
  b_max : mg "max" = none
  c_LONGEST : GC mg "LONGEST" (.int 500)
  c_BITS : GC mg "BITS" (.int 3000)
  c_LENGTH : GC mg "LENGTH" (.int 60000)
  c_DEPTH : GC mg "DEPTH" (.int 20)
  c_MODULUS : GC mg "MODULUS" (.int 65521)
  c_PAYLOAD : GC mg "PAYLOAD" (.int 58)
  c_KINDS : GC mg "KINDS" (.int 9)
  c_HEAD : GC mg "HEAD" (.int 1)
  c_PART : GC mg "PART" (.int 2)
  c_PIECE : GC mg "PIECE" (.int 40)
  c_FIRST : GC mg "FIRST" (.int 2)
  c_CHARS : GC mg "CHARS" (.str chars)
  blank : ∃ a, GC mg "BLANK" (.ref a) ∧ ∀ H, SqT K H a ((List.replicate 64 (0 : Int)).map V.int)
  cl : Cls K C
  n_boot : NoAttr K C "_boot"
  n_generation : NoAttr K C "_generation"
  n_start : NoAttr K C "_start"
  n_end : NoAttr K C "_end"
  n_records : NoAttr K C "_records"
  mgC : mg "Journal" = some (.ref C)
end Mj
set_option Elab.async false
set_option linter.all false
set_option maxRecDepth 100000
set_option maxHeartbeats 4000000
namespace Mj
open PySem L2
/-! ## heaps and data -/
theorem same_new {H : Hp} {p : Addr} (h : H p = none) (o : HO) : Same H (upd H p o) := fun b u q => by rw [upd_ne (ne_of_none q h)]; exact q
/-- what stood apart from p is kept, where p is changed -/
theorem same_mut {H H' : Hp} {p : Addr} (s : Same H H') (h : H p = none) (o : HO) : Same H (upd H' p o) := fun b u q => by rw [upd_ne (ne_of_none q h)]; exact s _ _ q
end Mj
namespace L2
open PySem Mj
theorem Same.t {K : PySem.W.Frag} {H H' : Hp} {a : Addr} {xs : List V} (e : Same H H') (h : SqT K H a xs) : SqT K H' a xs := by
  rcases h with (h | ⟨o, h⟩) | h
  · exact .inl (.inl (e _ _ h))
  · exact .inl (.inr ⟨o, e _ _ h⟩)
  · exact .inr h
mutual
theorem Dp.same {K : PySem.W.Frag} {H H' : Hp} (e : Same H H') : ∀ {v : V} {d : PyData}, Dp K H v d → Dp K H' v d
  | _, _, .non => .non
  | _, _, .bl b => .bl b
  | _, _, .int i => .int i
  | _, _, .str x => .str x
  | _, _, .lst h a => .lst (Same.seq e h) (DpAll.same e a)
  | _, _, .tup h a => .tup (Same.t e h) (DpAll.same e a)
theorem DpAll.same {K : PySem.W.Frag} {H H' : Hp} (e : Same H H') : ∀ {vs : List V} {ds : List PyData}, DpAll K H vs ds → DpAll K H' vs ds
  | _, _, .nil => .nil
  | _, _, .cons h t => .cons (Dp.same e h) (DpAll.same e t)
end
theorem dp_ints {K : PySem.W.Frag} {H : Hp} : ∀ {vs : List V} {ns : List Int}, DpAll K H vs (ns.map PyData.int) → vs = ns.map V.int
  | _, [], h => by cases h; rfl
  | _, n :: ns, h => by
    cases h with
    | cons h t =>
      cases h
      rw [dp_ints t]
      rfl
theorem ints_dp {K : PySem.W.Frag} {H : Hp} : ∀ (ns : List Int), DpAll K H (ns.map V.int) (ns.map PyData.int)
  | [] => .nil
  | n :: ns => .cons (.int n) (ints_dp ns)
theorem DpAll.length {K : PySem.W.Frag} {H : Hp} : ∀ {vs : List V} {ds : List PyData}, DpAll K H vs ds → vs.length = ds.length
  | _, _, .nil => rfl
  | _, _, .cons _ t => congrArg Nat.succ t.length
theorem DpAll.append {K : PySem.W.Frag} {H : Hp} : ∀ {vs ws : List V} {ds es : List PyData}, DpAll K H vs ds → DpAll K H ws es → DpAll K H (vs ++ ws) (ds ++ es)
  | _, _, _, _, .nil, s => s
  | _, _, _, _, .cons h t, s => .cons h (t.append s)
theorem DpAll.get {K : PySem.W.Frag} {H : Hp} : ∀ {vs : List V} {ds : List PyData} {i : Nat} {d : PyData}, DpAll K H vs ds → ds[i]? = some d → ∃ v, vs[i]? = some v ∧ Dp K H v d
  | _, _, _, _, .nil, e => by simp at e
  | _, _, 0, _, .cons h t, e => by simp at e; subst e; exact ⟨_, rfl, h⟩
  | _, _, i + 1, d, .cons h t, e => by
    obtain ⟨v, h1, h2⟩ := DpAll.get (i := i) (d := d) t (by simpa using e)
    exact ⟨v, by simpa using h1, h2⟩
theorem DpAll.getv {K : PySem.W.Frag} {H : Hp} : ∀ {vs : List V} {ds : List PyData} {i : Nat} {v : V}, DpAll K H vs ds → vs[i]? = some v → ∃ d, ds[i]? = some d ∧ Dp K H v d
  | _, _, _, _, .nil, e => by simp at e
  | _, _, 0, _, .cons h t, e => by simp at e; subst e; exact ⟨_, rfl, h⟩
  | _, _, i + 1, d, .cons h t, e => by
    obtain ⟨v, h1, h2⟩ := DpAll.getv (i := i) (v := d) t (by simpa using e)
    exact ⟨v, by simpa using h1, h2⟩
theorem DpAll.take {K : PySem.W.Frag} {H : Hp} : ∀ {vs : List V} {ds : List PyData} (n : Nat), DpAll K H vs ds → DpAll K H (vs.take n) (ds.take n)
  | _, _, 0, _ => .nil
  | _, _, _ + 1, .nil => .nil
  | _, _, n + 1, .cons h t => .cons h (t.take n)
theorem DpAll.drop {K : PySem.W.Frag} {H : Hp} : ∀ {vs : List V} {ds : List PyData} (n : Nat), DpAll K H vs ds → DpAll K H (vs.drop n) (ds.drop n)
  | _, _, 0, r => r
  | _, _, _ + 1, .nil => .nil
  | _, _, n + 1, .cons _ t => t.drop n
theorem DpAll.set {K : PySem.W.Frag} {H : Hp} {v : V} {d : PyData} (r : Dp K H v d) : ∀ {vs : List V} {ds : List PyData} (i : Nat), DpAll K H vs ds → DpAll K H (vs.set i v) (ds.set i d)
  | _, _, _, .nil => .nil
  | _, _, 0, .cons _ t => .cons r t
  | _, _, i + 1, .cons q t => .cons q (t.set r i)
theorem DpAll.rep {K : PySem.W.Frag} {H : Hp} {v : V} {d : PyData} (r : Dp K H v d) : ∀ (n : Nat), DpAll K H (List.replicate n v) (List.replicate n d)
  | 0 => .nil
  | n + 1 => .cons r (DpAll.rep r n)
end L2
namespace Mj
open PySem L2
theorem dp_tup {K : PySem.W.Frag} {H : Hp} {v : V} {ds : List PyData} (h : Dp K H v (.tuple ds)) : ∃ a xs, v = .ref a ∧ SqT K H a xs ∧ DpAll K H xs ds := by
  cases h with
  | tup h a => exact ⟨_, _, rfl, h, a⟩
theorem dp_lst {K : PySem.W.Frag} {H : Hp} {v : V} {ds : List PyData} (h : Dp K H v (.list ds)) : ∃ a xs, v = .ref a ∧ SqL K H a xs ∧ DpAll K H xs ds := by
  cases h with
  | lst h a => exact ⟨_, _, rfl, h, a⟩
theorem dp_tup_ints {K : PySem.W.Frag} {H : Hp} {v : V} {ns : List Int} (h : Dp K H v (.tuple (ns.map PyData.int))) : ∃ a, v = .ref a ∧ SqT K H a (ns.map V.int) := by
  obtain ⟨a, xs, e, h1, h2⟩ := dp_tup h
  rw [dp_ints h2] at h1
  exact ⟨a, e, h1⟩
theorem dp_of_ints {K : PySem.W.Frag} {H : Hp} {a : Addr} {ns : List Int} (h : SqT K H a (ns.map V.int)) : Dp K H (.ref a) (.tuple (ns.map PyData.int)) := .tup h (ints_dp ns)
theorem sz {n : Nat} (h : n ≤ 1000000) : n ≤ sizeLine := Nat.le_trans h (by decide)
theorem szl {n : Nat} (h : n ≤ 1000000) : n < sizeLine := Nat.lt_of_le_of_lt h (by decide)
theorem at_ints {ns : List Int} {i : Nat} {x : Int} (h : ns[i]? = some x) : atI (ns.map V.int) (i : Int) = some (.int x) := atI_nat (by rw [List.getElem?_map, h]; rfl)
theorem drop_head {α : Type} {l : List α} {i : Nat} {x : α} {r : List α} (h : l.drop i = x :: r) : l[i]? = some x ∧ l.drop (i + 1) = r ∧ i < l.length := by
  have h1 : l[i]? = some x := by
    have e : (l.drop i)[0]? = some x := by rw [h]; rfl
    rw [List.getElem?_drop] at e
    simpa using e
  refine ⟨h1, ?_, (List.getElem?_eq_some_iff.mp h1).1⟩
  have e : (l.drop i).drop 1 = r := by rw [h]; rfl
  rw [List.drop_drop] at e
  exact e
def wNum (i : Nat) (σ : L2.St) : Nat := match σ[i]? with
  | some (some (.int z)) => z.toNat
  | _ => 0
section
variable {P : Program} {w : World} {K : PySem.W.Frag} {mg : Str → Option Value} {base : Heap} {C : Addr} {f : Addr} {fd : FuncData}
/-! ## put_number -/
def spPut : Sp := fun vs H Q _ => ∃ n : Nat, vs = [.int n] ∧ n < 2 ^ 62 ∧ ∀ H' p, Same H H' → H p = none → H' p = some (.lst ((putN n).map V.int)) → Q (.ref p) H'
theorem ok_put (F : Fun K "put_number" "put_number" sPut f fd) : FnOk P w K mg base CX0 1 f fd ["number"] spPut := by
  refine F.ok scPut (fun vs H Q E h => by obtain ⟨n, rfl, _⟩ := h; rfl) (fun cdv A outer s H vs Q E hr h => ?_)
  obtain ⟨n, rfl, hn, k⟩ := h
  have nd := scPut.nd
  refine ⟨_, pss_cons (ps_set (i := 1) nd rfl (Or.inl rfl) (pe_lst pa_nil))
    (pss_cons (ps_while PassesOwn.never (pt_cmpR op_ge (pv 0) pe_int (nomark _))
      (pss_cons (ps_expr (pe_bm PySem.F.plainAttrs_list PySem.F.slot_list_append PySem.F.type_list_append mt_append (pv 1) (pa_cons ((pe_op op_add ((pe_op op_mod (pv 0) (pe_int))) (pe_int))) pa_nil))) (pss_one (ps_set (i := 0) nd rfl (Or.inl rfl) ((pe_op op_fdiv (pv 0) (pe_int)))))))
    (pss_cons (ps_expr (pe_bm PySem.F.plainAttrs_list PySem.F.slot_list_append PySem.F.type_list_append mt_append (pv 1) (pa_cons (pv 0) pa_nil))) (pss_one (ps_ret (pv 1))))), ?_⟩
  refine ⟨sz (Nat.zero_le _), fun l hl => ?_⟩
  refine while_by (fun σ H' => ∃ (m : Nat) (xs : List Int), σ = [some (.int m), some (.ref l)] ∧ Same H H' ∧ H' l = some (.lst (xs.map V.int)) ∧ xs ++ putN m = putN n)
    (fun σ _ => wNum 0 σ) ⟨n, [], rfl, same_new hl _, upd_same, rfl⟩ ?_ (fun σ H Q Q' h ⟨v, hv, i, j, e1, e2, b, e3, q⟩ => ⟨v, hv, i, j, e1, e2, b, e3, h _ _ q⟩)
  rintro σ H' ⟨m, xs, rfl, s1, hx, e⟩
  have hlen : (putN n).length ≤ 9 := putN_len 8 n (Nat.lt_of_lt_of_le hn (by decide))
  have hxl : xs.length + (putN m).length ≤ 9 := by rw [← List.length_append, e]; exact hlen
  have hpm := putN_pos m
  refine ⟨_, rfl, _, _, rfl, rfl, _, rfl, ?_⟩
  refine ite2 (fun c => ?_) (fun c => ?_)
  · have c' : ¬ m < 128 := by have := of_decide_eq_true c; omega
    refine ⟨_, rfl, .inl ⟨rfl, _, SqL.of hx⟩, _, rfl, _, _, rfl, rfl, (by show (0 : Int) < 128; decide), _, _, rfl, rfl, l, _, _, rfl, rfl, hx, szl (by rw [List.length_map]; omega), ?_⟩
    refine ⟨_, rfl, _, _, rfl, rfl, ⟨by decide, by decide⟩, ?_⟩
    refine ⟨⟨m / 128, xs ++ [((m % 128 + 128 : Nat) : Int)], ?_, same_mut s1 hl _, ?_, ?_⟩, ?_⟩
    · show [some (V.int ((m : Int) / 128)), some (V.ref l)] = _
      rw [show ((m : Int) / 128) = ((m / 128 : Nat) : Int) by omega]
    · rw [upd_same, List.map_append]
      show some (HO.lst (xs.map V.int ++ [V.int ((m : Int) % 128 + 128)])) = some (HO.lst (xs.map V.int ++ [V.int ((m % 128 + 128 : Nat) : Int)]))
      rw [show ((m : Int) % 128 + 128) = ((m % 128 + 128 : Nat) : Int) by omega]
    · rw [List.append_assoc, ← e, putN_ge c']
      rfl
    · show ((m : Int) / 128).toNat < ((m : Int)).toNat
      omega
  · have c' : m < 128 := by have := of_decide_eq_false (Bool.eq_false_iff.mpr c); omega
    refine ⟨_, rfl, .inl ⟨rfl, _, SqL.of hx⟩, _, rfl, l, _, _, rfl, rfl, hx, szl (by rw [List.length_map]; omega), ?_⟩
    refine ⟨_, rfl, k _ l (same_mut s1 hl _) hl ?_⟩
    rw [upd_same, ← e, putN_lt c', List.map_append]
    rfl
/-! ## take_number -/
def spTakeN (K : PySem.W.Frag) : Sp := fun vs H Q _ => ∃ (a : Addr) (ns : List Int) (p n : Nat) (rest : List Int), vs = [.ref a, .int p] ∧ SqL K H a (ns.map V.int) ∧ ns.length ≤ 100000 ∧ n < 2 ^ 62 ∧ ns.drop p = putN n ++ rest ∧
  ∀ H' t, Same H H' → H t = none → H' t = some (.tup [.int n, .int ((p + (putN n).length : Nat) : Int)]) → Q (.ref t) H'
theorem ok_takeN (F : Fun K "take_number" "take_number" sTakeN f fd) (T : Txt K mg C) : FnOk P w K mg base CX0 1 f fd ["row", "index"] (spTakeN K) := by
  refine F.ok scTakeN (fun vs H Q E h => by obtain ⟨a, ns, p, n, rest, rfl, _⟩ := h; rfl) (fun cdv A outer s H vs Q E hr h => ?_)
  obtain ⟨a, ns, p, n, rest, rfl, hS, hlen, hn, hd, k⟩ := h
  have nd := scTakeN.nd
  refine ⟨_, pss_cons (ps_set (i := 2) nd rfl (Or.inl rfl) (pe_int)) (pss_cons (ps_set (i := 3) nd rfl (Or.inl rfl) (pe_int))
    (pss_cons (ps_for PassesOwn.never rfl ((pi_range1 (by rfl) T.b_range (pa_cons ((C8.pe_gc (by rfl) T.c_LONGEST)) pa_nil))) ((pg_name (i := 4) nd rfl (Or.inl rfl))) (
      (pss_cons (ps_if (pt_cmpR op_ge (pe_op op_add (pv 1) (pv 4)) (pe_callB call_len_seq (by rfl) T.b_len PySem.boot_len (pa_cons (pv 0) pa_nil)) (nomark _)) (pss_one ps_never) pss_nil)
      (pss_cons (ps_set (i := 5) nd rfl (Or.inl rfl) ((pe_ix ix_list (pv 0) ((pe_op op_add (pv 1) (pv 4))) (fun _ _ => rfl))))
      (pss_cons (ps_set (i := 2) nd rfl (Or.inl rfl) ((pe_op op_add (pv 2) ((pe_op op_mul ((pe_op op_mod (pv 5) (pe_int))) (pv 3))))))
      (pss_cons (ps_if (pt_cmpR op_lt (pv 5) pe_int (nomark _))
        (pss_cons (ps_if (PW.pt (pw_and (pt_cmpR op_eq (pv 5) pe_int (nomark _)) (pw_and1 (pt_cmpR op_gt (pv 4) pe_int (nomark _))))) (pss_one ps_never) pss_nil)
          (pss_one (ps_ret (pe_tup (pa_cons (pv 2) (pa_cons ((pe_op op_add ((pe_op op_add (pv 1) (pv 4))) (pe_int))) pa_nil)))))) pss_nil)
      (pss_one (ps_set (i := 3) nd rfl (Or.inl rfl) ((pe_op op_mul (pv 3) (pe_int)))))))))))
    (pss_one ps_never))), ?_⟩
  have hlen9 : (putN n).length ≤ 9 := putN_len 8 n (Nat.lt_of_lt_of_le hn (by decide))
  refine ⟨500, rfl, by decide, by decide, for_range (lo := 0) (n := 500) (fun i σ H' => ∃ (m acc : Nat) (c4 c5 : Option V), σ = [some (.ref a), some (.int p), some (.int acc), some (.int ((128 ^ i : Nat) : Int)), c4, c5] ∧ Same H H' ∧
      ns.drop (p + i) = putN m ++ rest ∧ acc + m * 128 ^ i = n ∧ (0 < i → 0 < m) ∧ i + (putN m).length = (putN n).length)
    ⟨n, 0, none, none, rfl, Same.refl H, hd, by simp, fun z => absurd z (Nat.lt_irrefl _), by simp⟩ ?_ ?_⟩
  · rintro i σ H' hi ⟨m, acc, c4, c5, rfl, s1, h1, h2, h3, h4⟩
    have hh : ∃ x r, putN m = x :: r := by
      cases q : putN m with
      | nil => have := putN_pos m; rw [q] at this; simp at this
      | cons x r => exact ⟨x, r, rfl⟩
    obtain ⟨x, r, ex⟩ := hh
    rw [ex] at h1
    obtain ⟨g1, g2, g3⟩ := drop_head (x := x) (r := r ++ rest) h1
    have hSS := Same.seq s1 hS
    have e4 : ((p : Int) + (0 + (i : Int))) = ((p + i : Nat) : Int) := by omega
    refine ⟨_, rfl, _, rfl, _, _, rfl, rfl, _, rfl, a, _, rfl, .inl hSS, _, _, rfl, rfl, _, rfl, ?_⟩
    refine ite2 (fun c => ?_) (fun c => ?_)
    · have := of_decide_eq_true c
      rw [List.length_map] at this
      omega
    refine ⟨_, rfl, _, rfl, _, rfl, _, _, rfl, rfl, a, _, _, .int x, rfl, rfl, hSS, (by
      show atI (ns.map V.int) ((p : Int) + (0 + (i : Int))) = _
      rw [e4]
      exact at_ints g1), ?_⟩
    have em : x % 128 = ((m % 128 : Nat) : Int) ∧ (x < 128 ↔ m < 128) := by
      by_cases cm : m < 128
      · rw [putN_lt cm] at ex
        injection ex with q1 q2
        omega
      · rw [putN_ge cm] at ex
        injection ex with q1 q2
        omega
    have e5 : ((acc : Int) + x % 128 * ((128 ^ i : Nat) : Int)) = ((acc + m % 128 * 128 ^ i : Nat) : Int) := by
      rw [em.1]
      simp
    refine ⟨_, rfl, _, rfl, _, _, rfl, rfl, (by show (0 : Int) < 128; decide), _, rfl, _, _, rfl, rfl, .inl ⟨by show -(2 ^ 64) < x % 128; omega, by show x % 128 < 2 ^ 64; omega⟩, _, _, rfl, rfl, ?_⟩
    refine ⟨_, rfl, _, _, rfl, rfl, _, rfl, ?_⟩
    refine ite2 (fun c => ?_) (fun c => ?_)
    · have cm : m < 128 := em.2.mp (of_decide_eq_true c)
      have ex2 : x = (m : Int) := by
        rw [putN_lt cm] at ex
        injection ex with q1 q2
        exact q1.symm
      have hm0 : acc + m % 128 * 128 ^ i = n := by rw [Nat.mod_eq_of_lt cm]; exact h2
      have hl1 : (putN n).length = i + 1 := by rw [← h4, putN_lt cm]; rfl
      have fin : ∀ t, H' t = none → Q (.ref t) (upd H' t (.tup [.int ((acc : Int) + x % 128 * ((128 ^ i : Nat) : Int)), .int ((p : Int) + (0 + (i : Int)) + 1)])) := fun t ht => by
        refine k _ t (s1.trans (same_new ht _)) (s1.free ht) ?_
        rw [upd_same, e5, hm0, hl1, e4]
        rfl
      refine ⟨_, rfl, rfl, _, rfl, ?_⟩
      refine ite2 (fun c2 => ?_) (fun c2 => ?_)
      · have x0 : x = 0 := V.int.inj (of_decide_eq_true c2)
        refine ⟨_, rfl, _, _, rfl, rfl, _, rfl, ?_⟩
        refine ite2 (fun c3 => ?_) (fun c3 => ?_)
        · have i0 := of_decide_eq_true c3
          have := h3 (by omega)
          omega
        · exact ⟨_, rfl, _, rfl, _, rfl, _, _, rfl, rfl, _, _, rfl, rfl, sz (by show 2 ≤ 1000000; decide), fun t ht => fin t ht⟩
      · exact ⟨_, rfl, _, rfl, _, rfl, _, _, rfl, rfl, _, _, rfl, rfl, sz (by show 2 ≤ 1000000; decide), fun t ht => fin t ht⟩
    · have cm : ¬ m < 128 := fun z => c (decide_eq_true (em.2.mpr z))
      refine ⟨_, rfl, _, _, rfl, rfl, .inr (by decide), ?_⟩
      rw [putN_ge cm] at ex
      injection ex with q1 q2
      refine ⟨m / 128, acc + m % 128 * 128 ^ i, some (.int (0 + (i : Int))), some (.int x), ?_, s1, ?_, ?_, fun _ => by omega, ?_⟩
      · have e6 : ((128 ^ i : Nat) : Int) * 128 = ((128 ^ (i + 1) : Nat) : Int) := by rw [Nat.pow_succ]; simp
        rw [← e5]
        show [some (V.ref a), some (V.int p), some (V.int ((acc : Int) + x % 128 * ((128 ^ i : Nat) : Int))), some (V.int (((128 ^ i : Nat) : Int) * 128)), some (V.int (0 + (i : Int))), some (V.int x)] = _
        rw [e6]
      · rw [← Nat.add_assoc, g2, ← q2]
      · rw [Nat.pow_succ, Nat.add_assoc, split128]
        exact h2
      · rw [← h4, putN_ge cm, List.length_cons]
        omega
  · rintro σ H' ⟨m, acc, c4, c5, rfl, s1, h1, h2, h3, h4⟩
    omega
end
end Mj
set_option Elab.async false
set_option linter.all false
set_option maxRecDepth 100000
set_option maxHeartbeats 4000000
namespace L2
open PySem
theorem for_str {x : Str} {g : TG} {tb : TS} {D : Ends} {σ : St} {H : Hp} (Pv : Nat → St → Hp → Prop) (h0 : Pv 0 σ H)
    (hs : ∀ i c σ H, x.cps.toList[i]? = some c → Pv i σ H → g (.str ⟨#[c]⟩) σ H fun σ2 H2 => tb { D with nx := Pv (i + 1), ct := Pv (i + 1), bk := D.nx } σ2 H2) (hd : ∀ σ H, Pv x.cps.toList.length σ H → D.nx σ H) :
    ∃ W : Nat → Nat → St → Hp → Prop, (∃ m, W 0 m σ H) ∧ ∀ i m σ H, W i m σ H →
      ((Its x).stop i H ∧ D.nx σ H) ∨ ((Its x).go i H ∧ ∃ N : St → Hp → Prop, (∀ σ' H', N σ' H' → ∃ m', m' < m ∧ W (i + 1) m' σ' H') ∧ ∀ y H', (Its x).yld i H y H' → g y σ H' fun σ2 H2 => tb { D with nx := N, ct := N, bk := D.nx } σ2 H2) := by
  refine ⟨fun i m σ H => m = x.cps.toList.length - i ∧ i ≤ x.cps.toList.length ∧ Pv i σ H, ⟨x.cps.toList.length, by simp, Nat.zero_le _, h0⟩, ?_⟩
  rintro i m σ H ⟨rfl, hi, p⟩
  by_cases hlt : i < x.cps.toList.length
  · refine .inr ⟨(show i < x.cps.size by simpa using hlt), Pv (i + 1), fun σ' H' p' => ⟨x.cps.toList.length - (i + 1), by omega, rfl, hlt, p'⟩, fun y H' h => ?_⟩
    obtain ⟨e, c, hc, rfl⟩ := h
    subst e
    exact hs i c σ _ (by simpa using hc) p
  · have e : i = x.cps.toList.length := by omega
    subst e
    exact .inl ⟨by show x.cps.size ≤ x.cps.toList.length; simp, hd σ H p⟩
end L2
namespace Mj
open PySem L2
/-! ## tuples that stay -/
/-- every tuple is kept -/
def KT (H H' : Hp) : Prop := ∀ b xs, Rd H b (.tup xs) → Rd H' b (.tup xs)
/-- all but a is kept -/
def Off (a : Addr) (H H' : Hp) : Prop := ∀ b o, b ≠ a → H b = some o → H' b = some o
theorem Off.kt {a : Addr} {H H' : Hp} {xs : List V} (h : Off a H H') (e : H a = some (.lst xs)) : KT H H' := fun b ys r => by
  rcases r with r | ⟨o, r⟩
  · exact .inl (h b _ (fun z => by rw [z, e] at r; cases r) r)
  · exact .inr ⟨o, h b _ (fun z => by rw [z, e] at r; cases r) r⟩
theorem Off.refl (a : Addr) (H : Hp) : Off a H H := fun _ _ _ h => h
theorem Off.of {a : Addr} {H H' : Hp} (h : Same H H') : Off a H H' := fun b o _ e => h b o e
theorem Off.trans {a : Addr} {H H1 H2 : Hp} (h : Off a H H1) (k : Off a H1 H2) : Off a H H2 := fun b o n e => k b o n (h b o n e)
theorem Off.upd {a : Addr} {H H' : Hp} (h : Off a H H') (o : HO) : Off a H (upd H' a o) := fun b u n e => by rw [upd_ne n]; exact h b u n e
theorem Off.same {a : Addr} {H0 H H' : Hp} (h : Off a H H') (s : Same H0 H) (n : H0 a = none) : Same H0 H' := fun b o e => h b o (ne_of_none e n) (s b o e)
theorem Same.kt {H H' : Hp} (h : Same H H') : KT H H' := fun b ys r => by
  rcases r with r | ⟨o, r⟩
  · exact .inl (h b _ r)
  · exact .inr ⟨o, h b _ r⟩
theorem KT.trans {H H1 H2 : Hp} (h : KT H H1) (k : KT H1 H2) : KT H H2 := fun b xs r => k b xs (h b xs r)
theorem KT.t {K : PySem.W.Frag} {H H' : Hp} {a : Addr} {xs : List V} (h : KT H H') (s : SqT K H a xs) : SqT K H' a xs := by
  rcases s with s | s
  · exact .inl (h a xs s)
  · exact .inr s
mutual
def imm : PyData → Bool
  | .tuple ds => immAll ds
  | .list _ => false
  | .dict _ => false
  | _ => true
def immAll : List PyData → Bool
  | [] => true
  | d :: ds => imm d && immAll ds
end
theorem immAll_iff : ∀ {ds : List PyData}, immAll ds = true ↔ ∀ d ∈ ds, imm d = true
  | [] => ⟨fun _ d hd => (nomatch hd), fun _ => rfl⟩
  | d :: ds => by
    show (imm d && immAll ds) = true ↔ _
    rw [Bool.and_eq_true, immAll_iff (ds := ds)]
    exact ⟨fun ⟨a, b⟩ x hx => (List.mem_cons.mp hx).elim (fun e => by rw [e]; exact a) (b x), fun h => ⟨h d (List.mem_cons_self ..), fun x hx => h x (List.mem_cons_of_mem _ hx)⟩⟩
theorem immAll_ints (ns : List Int) : immAll (ns.map PyData.int) = true := immAll_iff.mpr fun d hd => by
  obtain ⟨n, _, rfl⟩ := List.mem_map.mp hd
  rfl
theorem OkD.imm : ∀ (k : Nat) {d : PyData}, OkD k d → imm d = true
  | k, .none, _ => rfl
  | k, .bool _, _ => rfl
  | k, .int _, _ => rfl
  | k, .str _, _ => rfl
  | k, .list _, h => (OkD_list h).elim
  | k, .dict _, h => (OkD_dict h).elim
  | 0, .tuple _, h => by cases h
  | k + 1, .tuple ds, h => immAll_iff.mpr fun d hd => OkD.imm k (h.2 d hd)
mutual
theorem Dp.kt {K : PySem.W.Frag} {H H' : Hp} (e : KT H H') : ∀ {v : V} {d : PyData}, imm d = true → Dp K H v d → Dp K H' v d
  | _, _, _, .non => .non
  | _, _, _, .bl b => .bl b
  | _, _, _, .int i => .int i
  | _, _, _, .str x => .str x
  | _, _, i, .lst h a => by cases i
  | _, _, i, .tup h a => .tup (e.t h) (DpAll.kt e i a)
theorem DpAll.kt {K : PySem.W.Frag} {H H' : Hp} (e : KT H H') : ∀ {vs : List V} {ds : List PyData}, immAll ds = true → DpAll K H vs ds → DpAll K H' vs ds
  | _, _, _, .nil => .nil
  | _, _, i, .cons h t => .cons (Dp.kt e (Bool.and_eq_true_iff.mp i).1 h) (DpAll.kt e (Bool.and_eq_true_iff.mp i).2 t)
end
theorem OkD.up : ∀ (k : Nat) {d : PyData}, OkD k d → OkD (k + 1) d ∧ packD (k + 1) d = packD k d
  | k, .none, _ => ⟨OkD_none, by rw [packD_none, packD_none]⟩
  | k, .bool _, _ => ⟨OkD_bool, by rw [packD_bool, packD_bool]⟩
  | k, .int _, h => ⟨OkD_int' (OkD_int h), by rw [packD_int, packD_int]⟩
  | k, .str _, h => ⟨OkD_str' (OkD_str h).1 (OkD_str h).2, by rw [packD_str, packD_str]⟩
  | k, .list _, h => (OkD_list h).elim
  | k, .dict _, h => (OkD_dict h).elim
  | 0, .tuple _, h => by cases h
  | k + 1, .tuple ds, h => by
    refine ⟨⟨h.1, fun d hd => (OkD.up k (h.2 d hd)).1⟩, ?_⟩
    rw [packD_tup, packD_tup]
    have e : ds.map (packD (k + 1)) = ds.map (packD k) := List.map_congr_left fun d hd => (OkD.up k (h.2 d hd)).2
    rw [e]

/-! ## isinstance -/
theorem ty_tup {K : PySem.W.Frag} {H : Hp} {a : Addr} {xs : List V} (h : SqT K H a xs) : TyX K H (.ref a) (.type "tuple") := by
  rcases h with (h | ⟨o, h⟩) | ⟨o, its, n, h, c, _⟩
  · exact .base (.tup h)
  · exact .fTuple h
  · exact .kTuple h c
theorem kb_bb : kitB "bool" "bool" = some true := by decide +kernel
theorem kb_ib : kitB "int" "bool" = some false := by decide +kernel
theorem kb_sb : kitB "str" "bool" = some false := by decide +kernel
theorem kb_tb : kitB "tuple" "bool" = some false := by decide +kernel
theorem kb_ii : kitB "int" "int" = some true := by decide +kernel
theorem kb_si : kitB "str" "int" = some false := by decide +kernel
theorem kb_ti : kitB "tuple" "int" = some false := by decide +kernel
theorem kb_ss : kitB "str" "str" = some true := by decide +kernel
theorem kb_ts : kitB "tuple" "str" = some false := by decide +kernel
theorem kb_tt : kitB "tuple" "tuple" = some true := by decide +kernel
theorem kb_ll : kitB "list" "list" = some true := by decide +kernel
theorem sp_cps : (Str.ofString " ").cps.toList = [32] := by decide +kernel
theorem til_cps : (Str.ofString "~").cps.toList = [126] := by decide +kernel
theorem nlt1 {c d : Nat} (h : d ≤ c) : ¬ ([c] : List Nat) < [d] := by
  intro q
  rw [List.cons_lt_cons_iff] at q
  rcases q with q | ⟨_, q⟩
  · omega
  · cases q
theorem bits_le {i : Int} (h : i.natAbs < 2 ^ 41) : ((Builtin.Int.intBits i : Nat) : Int) ≤ 3000 := by
  unfold Builtin.Int.intBits
  split
  · omega
  · have : i.natAbs.log2 < 41 := by
      by_cases z : i.natAbs = 0
      · rw [z]; decide
      · exact (Nat.log2_lt z).mpr h
    omega
section
variable {P : Program} {w : World} {K : PySem.W.Frag} {mg : Str → Option Value} {base : Heap} {C : Addr} {f : Addr} {fd : FuncData}
/-! ## is_string -/
def spIsStr : Sp := fun vs H Q _ => ∃ s : Str, vs = [.str s] ∧ s.length ≤ 200 ∧ (∀ c ∈ s.cps.toList, okC c) ∧ Q (.bl true) H
theorem ok_isStr (F : Fun K "is_string" "is_string" sIsStr f fd) (T : Txt K mg C) : FnOk P w K mg base CX0 1 f fd ["value"] spIsStr := by
  refine F.ok scIsStr (fun vs H Q E h => by obtain ⟨s, rfl, _⟩ := h; rfl) (fun cdv A outer s H vs Q E hr h => ?_)
  obtain ⟨z, rfl, hl, hc, k⟩ := h
  have nd := scIsStr.nd
  refine ⟨_, pss_cons (ps_if (PW.pt (pw_or (pt_not (pt_val (pe_callB call_isi (by rfl) T.b_isinstance (by decide +kernel) (pa_cons (pv 0) (pa_cons (pe_bltn (v := .ty "str") (by rfl) T.b_str (by decide +kernel) rfl) pa_nil))))) (pw_or1 (pt_cmpR op_gt (pe_callB call_len_str (by rfl) T.b_len PySem.boot_len (pa_cons (pv 0) pa_nil)) (C8.pe_gc (by rfl) T.c_LENGTH) (nomark _))))) (pss_one (ps_ret pe_bl)) pss_nil)
    (pss_cons (ps_for PassesOwn.never rfl (pi_str (pv 0)) ((pg_name (i := 1) nd rfl (Or.inl rfl))) ((pss_one (ps_if (PW.pt (pw_or (pt_cmpR op_lt_str (pv 1) pe_str (nomark _)) (pw_or (pt_cmpR op_gt_str (pv 1) pe_str (nomark _)) (pw_or1 (pt_cmpR op_eq (pe_callB call_ord (by rfl) T.b_ord (by decide +kernel) (pa_cons (pv 1) pa_nil)) pe_int (nomark _)))))) (pss_one (ps_ret pe_bl)) pss_nil))))
    (pss_one (ps_ret pe_bl))), ?_⟩
  refine ⟨_, rfl, _, _, _, _, true, rfl, .ty "str", .base (.str _), kit_ty kb_ss, _, rfl, ?_⟩
  refine iteF ?_
  refine ⟨_, rfl, _, rfl, sz (by omega), _, _, rfl, rfl, _, rfl, ?_⟩
  refine ite2 (fun c => ?_) (fun _ => ?_)
  · have := of_decide_eq_true c
    omega
  refine ⟨_, rfl, _, rfl, for_str (fun i σ H' => ∃ v, σ = [some (.str z), v] ∧ H' = H) ⟨none, rfl, rfl⟩ ?_ ?_⟩
  · rintro i c σ H' hi ⟨v, rfl, rfl⟩
    have oc := hc c (List.mem_of_getElem? hi)
    refine ⟨_, rfl, _, _, rfl, rfl, _, rfl, ?_⟩
    refine ite2 (fun q => ?_) (fun _ => ?_)
    · have := of_decide_eq_true q
      rw [sp_cps] at this
      exact (nlt1 oc.1 this).elim
    refine ⟨_, rfl, _, _, rfl, rfl, _, rfl, ?_⟩
    refine ite2 (fun q => ?_) (fun _ => ?_)
    · have := of_decide_eq_true q
      rw [til_cps] at this
      exact (nlt1 oc.2.1 this).elim
    refine ⟨_, rfl, _, rfl, rfl, rfl, _, rfl, ?_⟩
    refine ite2 (fun q => ?_) (fun _ => ?_)
    · have e := V.int.inj (of_decide_eq_true q)
      have e2 : (c : Int) = 37 := e
      have := oc.2.2
      omega
    exact ⟨_, rfl, rfl⟩
  · rintro σ H' ⟨v, rfl, rfl⟩
    exact k
/-! ## is_value_within -/
def spVW (K : PySem.W.Frag) : Nat → Sp
  | 0 => fun _ _ _ _ => False
  | k + 1 => fun vs H Q _ => ∃ (v : V) (d : PyData) (δ : Nat), vs = [v, .int δ] ∧ Dp K H v d ∧ OkD k d ∧ k ≤ δ ∧ Q (.bl true) H
theorem ok_vw {k : Nat} (F : Fun K "is_value_within" "is_value_within" sIsVW f fd) (T : Txt K mg C) (cS : C8.Cal P w K mg base 1 "is_string" spIsStr []) (c : C8.Cal P w K mg base (k + 1) "is_value_within" (spVW K k) []) :
    FnOk P w K mg base CX0 (k + 2) f fd ["value", "depth"] (spVW K (k + 1)) := by
  refine F.ok scIsVW (fun vs H Q E h => by obtain ⟨v, d, δ, rfl, _⟩ := h; rfl) (fun cdv A outer s H vs Q E hr h => ?_)
  obtain ⟨v, d, δ, rfl, hd, ok, hk, q⟩ := h
  have nd := scIsVW.nd
  refine ⟨_, pss_cons (ps_if (PW.pt (pw_or (pt_cmpR op_isN (pv 0) pe_non (nomark _)) (pw_or1 (pt_val (pe_callB call_isi (by rfl) T.b_isinstance (by decide +kernel) (pa_cons (pv 0) (pa_cons (pe_bltn (v := .ty "bool") (by rfl) T.b_bool (by decide +kernel) rfl) pa_nil))))))) (pss_one (ps_ret pe_bl)) pss_nil)
    (pss_cons (ps_if (pt_val (pe_callB call_isi (by rfl) T.b_isinstance (by decide +kernel) (pa_cons (pv 0) (pa_cons (pe_bltn (v := .ty "int") (by rfl) T.b_int (by decide +kernel) rfl) pa_nil)))) (pss_one (ps_ret (pe_cmpR op_le (pe_bits (pv 0)) (C8.pe_gc (by rfl) T.c_BITS) (nomark _)))) pss_nil)
    (pss_cons (ps_if (pt_val (pe_callB call_isi (by rfl) T.b_isinstance (by decide +kernel) (pa_cons (pv 0) (pa_cons (pe_bltn (v := .ty "str") (by rfl) T.b_str (by decide +kernel) rfl) pa_nil)))) (pss_one (ps_ret (C8.pe_c cS hr (by omega) (by rfl) (pa_cons (pv 0) pa_nil)))) pss_nil)
    (pss_cons (ps_if (PW.pt (pw_or (pt_not (pt_val (pe_callB call_isi (by rfl) T.b_isinstance (by decide +kernel) (pa_cons (pv 0) (pa_cons (pe_bltn (v := .ty "tuple") (by rfl) T.b_tuple (by decide +kernel) rfl) pa_nil))))) (pw_or (pt_cmpR op_eq (pv 1) pe_int (nomark _)) (pw_or1 (pt_cmpR op_gt (pe_callB call_len_seq (by rfl) T.b_len PySem.boot_len (pa_cons (pv 0) pa_nil)) (C8.pe_gc (by rfl) T.c_LENGTH) (nomark _)))))) (pss_one (ps_ret pe_bl)) pss_nil)
    (pss_cons (ps_for PassesOwn.never rfl (pi_tup (pv 0)) ((pg_name (i := 2) nd rfl (Or.inl rfl))) ((pss_one (ps_if (pt_not (pt_val (C8.pe_c c hr (by omega) (by rfl) (pa_cons (pv 2) (pa_cons ((pe_op op_sub (pv 1) (pe_int))) pa_nil))))) (pss_one (ps_ret pe_bl)) pss_nil))))
    (pss_one (ps_ret pe_bl)))))), ?_⟩
  cases hd with
  | non => exact ⟨_, rfl, rfl, _, rfl, iteT q⟩
  | bl b =>
    refine ⟨_, rfl, rfl, _, rfl, iteF ?_⟩
    exact ⟨_, rfl, _, _, _, _, true, rfl, .ty "bool", .base (.bl _), kit_ty kb_bb, _, rfl, q⟩
  | int i =>
    have hi := OkD_int ok
    refine ⟨_, rfl, rfl, _, rfl, iteF ?_⟩
    refine ⟨_, rfl, _, _, _, _, false, rfl, .ty "bool", .base (.int _), kit_ty kb_ib, _, rfl, ?_⟩
    refine ⟨_, rfl, _, _, _, _, true, rfl, .ty "int", .base (.int _), kit_ty kb_ii, _, rfl, ?_⟩
    refine ⟨_, rfl, _, rfl, _, _, rfl, rfl, ?_⟩
    have e : decide (((Builtin.Int.intBits i : Nat) : Int) ≤ 3000) = true := decide_eq_true (bits_le (by omega))
    show Q (.bl (decide (((Builtin.Int.intBits i : Nat) : Int) ≤ 3000))) H
    rw [e]
    exact q
  | str x =>
    have hi := OkD_str ok
    refine ⟨_, rfl, rfl, _, rfl, iteF ?_⟩
    refine ⟨_, rfl, _, _, _, _, false, rfl, .ty "bool", .base (.str _), kit_ty kb_sb, _, rfl, ?_⟩
    refine ⟨_, rfl, _, _, _, _, false, rfl, .ty "int", .base (.str _), kit_ty kb_si, _, rfl, ?_⟩
    refine ⟨_, rfl, _, _, _, _, true, rfl, .ty "str", .base (.str _), kit_ty kb_ss, _, rfl, ?_⟩
    exact ⟨_, rfl, _, rfl, hi.1, hi.2, q⟩
  | lst _ _ => exact (OkD_list ok).elim
  | @tup a xs ds hS hA =>
    obtain ⟨k, rfl⟩ : ∃ j, k = j + 1 := by
      cases k with
      | zero => cases ok
      | succ j => exact ⟨j, rfl⟩
    obtain ⟨o1, o2⟩ : ds.length ≤ 10 ∧ ∀ d ∈ ds, OkD k d := ok
    have hlen := hA.length
    refine ⟨_, rfl, rfl, _, rfl, iteF ?_⟩
    refine ⟨_, rfl, _, _, _, _, false, rfl, .ty "bool", ty_tup hS, kit_ty kb_tb, _, rfl, ?_⟩
    refine ⟨_, rfl, _, _, _, _, false, rfl, .ty "int", ty_tup hS, kit_ty kb_ti, _, rfl, ?_⟩
    refine ⟨_, rfl, _, _, _, _, false, rfl, .ty "str", ty_tup hS, kit_ty kb_ts, _, rfl, ?_⟩
    refine ⟨_, rfl, _, _, _, _, true, rfl, .ty "tuple", ty_tup hS, kit_ty kb_tt, _, rfl, ?_⟩
    refine iteF ?_
    refine ⟨_, rfl, rfl, _, rfl, ?_⟩
    refine ite2 (fun z => ?_) (fun _ => ?_)
    · have e := V.int.inj (of_decide_eq_true z)
      omega
    refine ⟨_, rfl, a, _, rfl, .inr hS, _, _, rfl, rfl, _, rfl, ?_⟩
    refine ite2 (fun z => ?_) (fun _ => ?_)
    · have := of_decide_eq_true z
      omega
    refine ⟨_, rfl, a, rfl, ⟨_, hS⟩, for_tup (K := K) (a := a) (xs := xs) (fun i σ H' => ∃ u, σ = [some (.ref a), some (.int δ), u] ∧ H' = H) ⟨none, rfl, rfl⟩ (fun i σ H' _ ⟨_, _, e⟩ => by rw [e]; exact hS) ?_ ?_⟩
    · rintro i x σ H' hi ⟨u, rfl, rfl⟩
      obtain ⟨d, h1, h2⟩ := hA.getv hi
      refine ⟨_, rfl, _, rfl, _, _, rfl, rfl, x, d, δ - 1, ?_, h2, o2 d (List.mem_of_getElem? h1), by omega, _, rfl, ?_⟩
      · show [x, V.int ((δ : Int) - 1)] = [x, V.int ((δ - 1 : Nat) : Int)]
        rw [show ((δ : Int) - 1) = ((δ - 1 : Nat) : Int) by omega]
      exact ⟨_, rfl, rfl⟩
    · rintro σ H' ⟨u, rfl, rfl⟩
      exact q
end
end Mj
set_option Elab.async false
set_option linter.all false
set_option maxRecDepth 100000
set_option maxHeartbeats 4000000
namespace Mj
open PySem L2
theorem flat_take {f : PyData → List Int} {ds : List PyData} {i : Nat} {d : PyData} (h : ds[i]? = some d) : ((ds.take (i + 1)).map f).flatten = ((ds.take i).map f).flatten ++ f d := by
  rw [List.take_add_one, h]
  simp
theorem map_take {α β : Type} {f : α → β} {l : List α} {i : Nat} {x : α} (h : l[i]? = some x) : (l.take (i + 1)).map f = (l.take i).map f ++ [f x] := by
  rw [List.take_add_one, h]
  simp
theorem vmap (xs ys : List Int) : xs.map V.int ++ ys.map V.int = (xs ++ ys).map V.int := (List.map_append).symm
theorem vmap1 (xs : List Int) (y : Int) : xs.map V.int ++ [V.int y] = (xs ++ [y]).map V.int := by rw [List.map_append]; rfl
section
variable {P : Program} {w : World} {K : PySem.W.Frag} {mg : Str → Option Value} {base : Heap} {C : Addr} {f : Addr} {fd : FuncData}
/-! ## pack_into -/
def spPI (K : PySem.W.Frag) : Nat → Sp
  | 0 => fun _ _ _ _ => False
  | k + 1 => fun vs H Q _ => ∃ (a : Addr) (xs : List Int) (v : V) (d : PyData), vs = [.ref a, v] ∧ H a = some (.lst (xs.map V.int)) ∧ Dp K H v d ∧ OkD k d ∧ xs.length + lenB k ≤ 100000 ∧
      ∀ H', Off a H H' → H' a = some (.lst ((xs ++ packD k d).map V.int)) → Q .non H'
theorem ok_packI {k : Nat} (F : Fun K "pack_into" "pack_into" sPackI f fd) (T : Txt K mg C) (cP : C8.Cal P w K mg base 1 "put_number" spPut []) (c : C8.Cal P w K mg base (k + 1) "pack_into" (spPI K k) []) :
    FnOk P w K mg base CX0 (k + 2) f fd ["row", "value"] (spPI K (k + 1)) := by
  refine F.ok scPackI (fun vs H Q E h => by obtain ⟨a, xs, v, d, rfl, _⟩ := h; rfl) (fun cdv A outer s H vs Q E hr h => ?_)
  obtain ⟨a, xs, v, d, rfl, ha, hd, ok, hlen, q⟩ := h
  have nd := scPackI.nd
  refine ⟨_, (pss_one ((ps_if (pt_cmpR op_isN (pv 1) pe_non (nomark _)) (pss_one ((ps_expr ((pe_bm PySem.F.plainAttrs_list PySem.F.slot_list_append PySem.F.type_list_append mt_append (pv 0) (pa_cons (pe_int) pa_nil)))))) (pss_one ((ps_if (pt_val (pe_callB call_isi (by rfl) T.b_isinstance (by decide +kernel) (pa_cons (pv 1) (pa_cons (pe_bltn (v := .ty "bool") (by rfl) T.b_bool (by decide +kernel) rfl) pa_nil)))) (pss_one ((ps_expr ((pe_bm PySem.F.plainAttrs_list PySem.F.slot_list_append PySem.F.type_list_append mt_append (pv 0) (pa_cons ((pe_op op_add (pe_int) ((pe_callTy call_int1 (by rfl) T.b_int (by decide +kernel) (pa_cons (pv 1) pa_nil))))) pa_nil)))))) (pss_one ((ps_if (pt_val (pe_callB call_isi (by rfl) T.b_isinstance (by decide +kernel) (pa_cons (pv 1) (pa_cons (pe_bltn (v := .ty "int") (by rfl) T.b_int (by decide +kernel) rfl) pa_nil)))) (pss_one ((ps_if ((pt_cmpR op_ge (pv 1) pe_int (nomark _))) (pss_cons ((ps_expr ((pe_bm PySem.F.plainAttrs_list PySem.F.slot_list_append PySem.F.type_list_append mt_append (pv 0) (pa_cons (pe_int) pa_nil))))) (pss_one ((ps_expr ((pe_bm PySem.F.plainAttrs_list PySem.F.slot_list_extend PySem.F.type_list_extend mt_extend (pv 0) (pa_cons ((C8.pe_c cP hr (by omega) (by rfl) (pa_cons (pv 1) pa_nil))) pa_nil))))))) (pss_cons ((ps_expr ((pe_bm PySem.F.plainAttrs_list PySem.F.slot_list_append PySem.F.type_list_append mt_append (pv 0) (pa_cons (pe_int) pa_nil))))) (pss_one ((ps_expr ((pe_bm PySem.F.plainAttrs_list PySem.F.slot_list_extend PySem.F.type_list_extend mt_extend (pv 0) (pa_cons ((C8.pe_c cP hr (by omega) (by rfl) (pa_cons ((pe_op op_sub (pe_un un_neg pe_int) (pv 1))) pa_nil))) pa_nil)))))))))) (pss_one ((ps_if (pt_val (pe_callB call_isi (by rfl) T.b_isinstance (by decide +kernel) (pa_cons (pv 1) (pa_cons (pe_bltn (v := .ty "str") (by rfl) T.b_str (by decide +kernel) rfl) pa_nil)))) (pss_cons ((ps_expr ((pe_bm PySem.F.plainAttrs_list PySem.F.slot_list_append PySem.F.type_list_append mt_append (pv 0) (pa_cons (pe_int) pa_nil))))) (pss_cons ((ps_expr ((pe_bm PySem.F.plainAttrs_list PySem.F.slot_list_extend PySem.F.type_list_extend mt_extend (pv 0) (pa_cons ((C8.pe_c cP hr (by omega) (by rfl) (pa_cons ((pe_callB call_len_str (by rfl) T.b_len PySem.boot_len (pa_cons (pv 1) pa_nil))) pa_nil))) pa_nil))))) (pss_one ((ps_for PassesOwn.never rfl (pi_str (pv 1)) ((pg_name (i := 2) nd rfl (Or.inl rfl))) (pss_one ((ps_expr ((pe_bm PySem.F.plainAttrs_list PySem.F.slot_list_append PySem.F.type_list_append mt_append (pv 0) (pa_cons ((pe_op op_sub ((pe_callB call_ord (by rfl) T.b_ord (by decide +kernel) (pa_cons (pv 2) pa_nil))) (pe_int))) pa_nil))))))))))) (pss_cons ((ps_expr ((pe_bm PySem.F.plainAttrs_list PySem.F.slot_list_append PySem.F.type_list_append mt_append (pv 0) (pa_cons (pe_int) pa_nil))))) (pss_cons ((ps_expr ((pe_bm PySem.F.plainAttrs_list PySem.F.slot_list_extend PySem.F.type_list_extend mt_extend (pv 0) (pa_cons ((C8.pe_c cP hr (by omega) (by rfl) (pa_cons ((pe_callB call_len_seq (by rfl) T.b_len PySem.boot_len (pa_cons (pv 1) pa_nil))) pa_nil))) pa_nil))))) (pss_one ((ps_for PassesOwn.never rfl (pi_tup (pv 1)) ((pg_name (i := 3) nd rfl (Or.inl rfl))) (pss_one ((ps_expr ((C8.pe_c c hr (by omega) (by rfl) (pa_cons (pv 0) (pa_cons (pv 3) pa_nil)))))))))))))))))))))))), ?_⟩
  have hB := lenB_ge k
  have hx : (xs.map V.int).length ≤ 100000 := by rw [List.length_map]; omega
  have lt : (xs.map V.int).length < sizeLine := szl (by omega)
  have offu : ∀ o, Off a H (upd H a o) := fun o => (Off.refl a H).upd o
  cases hd with
  | non =>
    refine ⟨_, rfl, rfl, _, rfl, iteT ?_⟩
    refine ⟨_, rfl, .inl ⟨rfl, _, SqL.of ha⟩, a, _, _, rfl, rfl, ha, lt, ?_⟩
    refine q _ (offu _) ?_
    rw [upd_same, packD_none, List.map_append]
    rfl
  | bl b =>
    refine ⟨_, rfl, rfl, _, rfl, iteF ?_⟩
    refine ⟨_, rfl, _, _, _, _, true, rfl, .ty "bool", .base (.bl _), kit_ty kb_bb, _, rfl, iteT ?_⟩
    refine ⟨_, rfl, .inl ⟨rfl, _, SqL.of ha⟩, _, rfl, .inr ⟨b, rfl, _, _, rfl, rfl, a, _, _, rfl, rfl, ha, lt, ?_⟩⟩
    refine q _ (offu _) ?_
    rw [upd_same, packD_bool, List.map_append]
    rfl
  | int i =>
    have hi := OkD_int ok
    refine ⟨_, rfl, rfl, _, rfl, iteF ?_⟩
    refine ⟨_, rfl, _, _, _, _, false, rfl, .ty "bool", .base (.int _), kit_ty kb_ib, _, rfl, iteF ?_⟩
    refine ⟨_, rfl, _, _, _, _, true, rfl, .ty "int", .base (.int _), kit_ty kb_ii, _, rfl, iteT ?_⟩
    refine ⟨_, rfl, _, _, rfl, rfl, _, rfl, ?_⟩
    refine ite2 (fun z => ?_) (fun z => ?_)
    · have z0 : 0 ≤ i := of_decide_eq_true z
      have e0 : i = ((i.toNat : Nat) : Int) := by omega
      have hp := @putN_6 i.toNat (by omega)
      refine ⟨_, rfl, .inl ⟨rfl, _, SqL.of ha⟩, a, _, _, rfl, rfl, ha, lt, ?_⟩
      refine ⟨_, rfl, .inl ⟨rfl, _, SqL.of upd_same⟩, _, rfl, i.toNat, by rw [← e0]; rfl, by omega, fun H2 p s2 np hp2 => ?_⟩
      refine ⟨a, p, _, _, rfl, rfl, s2 _ _ upd_same, hp2, sz (by simp; omega), ?_⟩
      refine q _ (((offu _).trans (Off.of s2)).upd _) ?_
      rw [upd_same, packD_int, if_pos z0, vmap1, vmap, List.append_assoc]
      rfl
    · have z0 : ¬ 0 ≤ i := fun y => z (decide_eq_true y)
      have e0 : -1 - i = (((-1 - i).toNat : Nat) : Int) := by omega
      have hp := @putN_6 (-1 - i).toNat (by omega)
      refine ⟨_, rfl, .inl ⟨rfl, _, SqL.of ha⟩, a, _, _, rfl, rfl, ha, lt, ?_⟩
      refine ⟨_, rfl, .inl ⟨rfl, _, SqL.of upd_same⟩, 1, rfl, _, rfl, _, _, rfl, rfl, (-1 - i).toNat, by rw [← e0]; rfl, by omega, fun H2 p s2 np hp2 => ?_⟩
      refine ⟨a, p, _, _, rfl, rfl, s2 _ _ upd_same, hp2, sz (by simp; omega), ?_⟩
      refine q _ (((offu _).trans (Off.of s2)).upd _) ?_
      rw [upd_same, packD_int, if_neg z0, vmap1, vmap, List.append_assoc]
      rfl
  | str x =>
    have hi := OkD_str ok
    have hxl : x.cps.toList.length = x.length := by simp [Str.length]
    have hp := @putN_2 x.length (by omega)
    refine ⟨_, rfl, rfl, _, rfl, iteF ?_⟩
    refine ⟨_, rfl, _, _, _, _, false, rfl, .ty "bool", .base (.str _), kit_ty kb_sb, _, rfl, iteF ?_⟩
    refine ⟨_, rfl, _, _, _, _, false, rfl, .ty "int", .base (.str _), kit_ty kb_si, _, rfl, iteF ?_⟩
    refine ⟨_, rfl, _, _, _, _, true, rfl, .ty "str", .base (.str _), kit_ty kb_ss, _, rfl, iteT ?_⟩
    refine ⟨_, rfl, .inl ⟨rfl, _, SqL.of ha⟩, a, _, _, rfl, rfl, ha, lt, ?_⟩
    refine ⟨_, rfl, .inl ⟨rfl, _, SqL.of upd_same⟩, _, rfl, _, rfl, sz (by omega), x.length, rfl, by omega, fun H2 p s2 np hp2 => ?_⟩
    refine ⟨a, p, _, _, rfl, rfl, s2 _ _ upd_same, hp2, sz (by simp; omega), ?_⟩
    refine ⟨_, rfl, _, rfl, for_str (fun i σ H' => ∃ u, σ = [some (.ref a), some (.str x), u, none] ∧ Off a H H' ∧ H' a = some (.lst ((xs ++ (5 :: (putN x.length ++ (x.cps.toList.take i).map (fun c : Nat => (c : Int) - 32)))).map V.int)))
      ⟨none, rfl, ((offu _).trans (Off.of s2)).upd _, ?_⟩ ?_ ?_⟩
    · rw [upd_same, vmap1, vmap, List.append_assoc]
      simp
    · rintro i c σ H' hi2 ⟨u, rfl, o1, h1⟩
      have hil := (List.getElem?_eq_some_iff.mp hi2).1
      refine ⟨_, rfl, .inl ⟨rfl, _, SqL.of h1⟩, _, rfl, _, rfl, rfl, _, _, rfl, rfl, a, _, _, rfl, rfl, h1, szl (by simp; omega), ?_⟩
      refine ⟨_, rfl, o1.upd _, ?_⟩
      rw [upd_same]
      show some (HO.lst (List.map V.int _ ++ [V.int ((c : Int) - 32)])) = _
      rw [vmap1, map_take hi2]
      simp
    · rintro σ H' ⟨u, rfl, o1, h1⟩
      refine q _ o1 ?_
      rw [h1, packD_str, List.take_length]
  | lst _ _ => exact (OkD_list ok).elim
  | @tup b vs ds hS hA =>
    obtain ⟨k, rfl⟩ : ∃ j, k = j + 1 := by
      cases k with
      | zero => cases ok
      | succ j => exact ⟨j, rfl⟩
    obtain ⟨o1, o2⟩ : ds.length ≤ 10 ∧ ∀ d ∈ ds, OkD k d := ok
    have hvl := hA.length
    have hp : (putN ds.length).length = 1 := by rw [putN_lt (by omega)]; rfl
    have im : immAll ds = true := immAll_iff.mpr fun d hd => OkD.imm k (o2 d hd)
    have hBk : lenB (k + 1) = 2 + 10 * lenB k := rfl
    refine ⟨_, rfl, rfl, _, rfl, iteF ?_⟩
    refine ⟨_, rfl, _, _, _, _, false, rfl, .ty "bool", ty_tup hS, kit_ty kb_tb, _, rfl, iteF ?_⟩
    refine ⟨_, rfl, _, _, _, _, false, rfl, .ty "int", ty_tup hS, kit_ty kb_ti, _, rfl, iteF ?_⟩
    refine ⟨_, rfl, _, _, _, _, false, rfl, .ty "str", ty_tup hS, kit_ty kb_ts, _, rfl, iteF ?_⟩
    refine ⟨_, rfl, .inl ⟨rfl, _, SqL.of ha⟩, a, _, _, rfl, rfl, ha, lt, ?_⟩
    have hS1 := ((offu (.lst (xs.map V.int ++ [V.int 6]))).kt ha).t hS
    refine ⟨_, rfl, .inl ⟨rfl, _, SqL.of upd_same⟩, _, rfl, b, _, rfl, .inr hS1, ds.length, by rw [hvl]; rfl, by omega, fun H2 p s2 np hp2 => ?_⟩
    refine ⟨a, p, _, _, rfl, rfl, s2 _ _ upd_same, hp2, sz (by simp; omega), ?_⟩
    have of2 : Off a H (upd H2 a (.lst (xs.map V.int ++ [V.int 6] ++ (putN ds.length).map V.int))) := ((offu _).trans (Off.of s2)).upd _
    refine ⟨_, rfl, b, rfl, ⟨_, (of2.kt ha).t hS⟩, for_tup (K := K) (a := b) (xs := vs) (fun i σ H' => ∃ u, σ = [some (.ref a), some (.ref b), none, u] ∧ Off a H H' ∧ H' a = some (.lst ((xs ++ (6 :: (putN ds.length ++ ((ds.take i).map (packD k)).flatten))).map V.int)))
      ⟨none, rfl, of2, ?_⟩ (fun i σ H' _ ⟨_, _, o, _⟩ => (o.kt ha).t hS) ?_ ?_⟩
    · rw [upd_same, vmap1, vmap, List.append_assoc]
      simp
    · rintro i x σ H' hi2 ⟨u, rfl, o3, h1⟩
      obtain ⟨d, g1, g2⟩ := hA.getv hi2
      have hdm := List.mem_of_getElem? g1
      have hil := (List.getElem?_eq_some_iff.mp g1).1
      have fl := flat_len (f := packD k) (B := lenB k) (ds := ds.take i) fun d hd => packD_len k d (o2 d (List.mem_of_mem_take hd))
      have tl : (ds.take i).length ≤ 9 := by rw [List.length_take]; omega
      have fl2 : (ds.take i).length * lenB k ≤ 9 * lenB k := Nat.mul_le_mul_right _ tl
      refine ⟨_, rfl, _, rfl, a, _, x, d, rfl, h1, Dp.kt (o3.kt ha) (OkD.imm k (o2 d hdm)) g2, o2 d hdm, ?_, fun H3 o4 h4 => ⟨_, rfl, o3.trans o4, ?_⟩⟩
      · simp only [List.length_append, List.length_cons]
        omega
      · rw [h4, flat_take g1]
        simp
    · rintro σ H' ⟨u, rfl, o3, h1⟩
      refine q _ o3 ?_
      rw [h1, packD_tup, hvl, List.take_length]
/-! ## is_value, pack, parts_needed, check_records -/
def spIV (K : PySem.W.Frag) : Sp := fun vs H Q _ => ∃ (v : V) (d : PyData), vs = [v] ∧ Dp K H v d ∧ OkD 2 d ∧ Q (.bl true) H
theorem ok_iv (F : Fun K "is_value" "is_value" sIsV f fd) (T : Txt K mg C) (c : C8.Cal P w K mg base 4 "is_value_within" (spVW K 3) []) : FnOk P w K mg base CX0 5 f fd ["value"] (spIV K) := by
  refine F.ok scIsV (fun vs H Q E h => by obtain ⟨v, d, rfl, _⟩ := h; rfl) (fun cdv A outer s H vs Q E hr h => ?_)
  obtain ⟨v, d, rfl, hd, ok, q⟩ := h
  refine ⟨_, pss_one (ps_ret (C8.pe_c c hr (by omega) (by rfl) (pa_cons (pv 0) (pa_cons ((C8.pe_gc (by rfl) T.c_DEPTH)) pa_nil)))), ?_⟩
  exact ⟨_, rfl, v, d, 20, rfl, hd, ok, by decide, q⟩
def spPack (K : PySem.W.Frag) : Sp := fun vs H Q _ => ∃ (v : V) (d : PyData), vs = [v] ∧ Dp K H v d ∧ OkD 2 d ∧ ∀ H' p, Same H H' → H p = none → H' p = some (.lst ((packD 2 d).map V.int)) → Q (.ref p) H'
theorem ok_pack (F : Fun K "pack" "pack" sPack f fd) (T : Txt K mg C) (cV : C8.Cal P w K mg base 5 "is_value" (spIV K) []) (c : C8.Cal P w K mg base 4 "pack_into" (spPI K 3) []) : FnOk P w K mg base CX0 6 f fd ["value"] (spPack K) := by
  refine F.ok scPack (fun vs H Q E h => by obtain ⟨v, d, rfl, _⟩ := h; rfl) (fun cdv A outer s H vs Q E hr h => ?_)
  obtain ⟨v, d, rfl, hd, ok, q⟩ := h
  have nd := scPack.nd
  refine ⟨_, pss_cons (ps_if (pt_not (pt_val (C8.pe_c cV hr (by omega) (by rfl) (pa_cons (pv 0) pa_nil)))) (pss_one ps_never) pss_nil) (pss_cons (ps_set (i := 1) nd rfl (Or.inl rfl) (pe_lst pa_nil))
    (pss_cons (ps_expr (C8.pe_c c hr (by omega) (by rfl) (pa_cons (pv 1) (pa_cons (pv 0) pa_nil)))) (pss_one (ps_ret (pv 1))))), ?_⟩
  refine ⟨_, rfl, v, d, rfl, hd, ok, _, rfl, iteF ?_⟩
  refine ⟨sz (Nat.zero_le _), fun l hl => ?_⟩
  have s1 : Same H (upd H l (.lst [])) := same_new hl _
  refine ⟨_, rfl, _, rfl, l, [], v, d, rfl, upd_same, hd.same s1, ok, by show 0 + 20322 ≤ 100000; omega, fun H' o h1 => ?_⟩
  exact ⟨_, rfl, q H' l (o.same s1 hl) hl h1⟩
end
end Mj
set_option Elab.async false
set_option linter.all false
set_option maxRecDepth 100000
set_option maxHeartbeats 4000000
namespace Mj
open PySem L2
theorem chars_at : ∀ c : Nat, c < 127 → 32 ≤ c → c ≠ 37 → chars.cps.toList[c - 32]? = some c := by decide +kernel
theorem chars_len : chars.length = 95 := by decide +kernel
theorem join1 : ∀ l : List Nat, TL.joinL [] (l.map fun c => [c]) = l
  | [] => rfl
  | [_] => rfl
  | x :: y :: r => by
    have := join1 (y :: r)
    show [x] ++ ([] ++ TL.joinL [] ((y :: r).map fun c => [c])) = x :: y :: r
    rw [this]
    rfl
theorem join_chars (z : Str) : Txt.join (Str.ofString "") (z.cps.toList.map fun c => (⟨#[c]⟩ : Str)) = z := by
  have e0 : (Str.ofString "") = SX.S [] := by decide +kernel
  have e1 : (z.cps.toList.map fun c => (⟨#[c]⟩ : Str)) = (z.cps.toList.map fun c => [c]).map SX.S := by
    rw [List.map_map]
    rfl
  rw [e0, e1, SX.join_S, join1]
section
variable {P : Program} {w : World} {K : PySem.W.Frag} {mg : Str → Option Value} {base : Heap} {C : Addr} {f : Addr} {fd : FuncData}
/-! ## take_integer, take_length -/
def spTakeI (K : PySem.W.Frag) : Sp := fun vs H Q _ => ∃ (a : Addr) (ns : List Int) (p n : Nat) (ng : Bool) (rest : List Int), vs = [.ref a, .int p, .bl ng] ∧ SqL K H a (ns.map V.int) ∧ ns.length ≤ 100000 ∧ n < 2 ^ 40 ∧ ns.drop p = putN n ++ rest ∧
  ∀ H' t, Same H H' → H t = none → H' t = some (.tup [.int (if ng = true then -1 - (n : Int) else (n : Int)), .int ((p + (putN n).length : Nat) : Int)]) → Q (.ref t) H'
theorem ok_takeI (F : Fun K "take_integer" "take_integer" sTakeI f fd) (T : Txt K mg C) (cN : C8.Cal P w K mg base 1 "take_number" (spTakeN K) []) : FnOk P w K mg base CX0 2 f fd ["row", "index", "negative"] (spTakeI K) := by
  refine F.ok scTakeI (fun vs H Q E h => by obtain ⟨a, ns, p, n, ng, rest, rfl, _⟩ := h; rfl) (fun cdv A outer s H vs Q E hr h => ?_)
  obtain ⟨a, ns, p, n, ng, rest, rfl, hS, hlen, hn, hd, k⟩ := h
  have nd := scTakeI.nd
  refine ⟨_, (pss_cons (ps_asg (C8.pe_c cN hr (by omega) (by rfl) (pa_cons (pv 0) (pa_cons (pv 1) pa_nil))) (pg_tup (by rfl) (pgs_cons (pg_name (i := 3) nd rfl (Or.inl rfl)) (pgs_cons (pg_name (i := 1) nd rfl (Or.inl rfl)) pgs_nil)))) (pss_cons ((ps_if (pt_val (pv 2)) (pss_one ((ps_set (i := 3) nd rfl (Or.inl rfl) ((pe_op op_sub (pe_un un_neg pe_int) (pv 3)))))) pss_nil)) (pss_cons ((ps_if ((pt_cmpR op_gt (pe_bits (pv 3)) (C8.pe_gc (by rfl) T.c_BITS) (nomark _))) (pss_one (ps_never)) pss_nil)) (pss_one ((ps_ret ((pe_tup (pa_cons (pv 3) (pa_cons (pv 1) pa_nil)))))))))), ?_⟩
  refine ⟨_, rfl, _, rfl, a, ns, p, n, rest, rfl, hS, hlen, by omega, hd, fun H1 t s1 nt ht => ?_⟩
  refine ⟨t, _, rfl, SqT.of ht, rfl, _, _, rfl, _, _, rfl, rfl, ?_⟩
  have fin : ∀ x : Int, x = (if ng = true then -1 - (n : Int) else (n : Int)) → ∀ t2, H1 t2 = none → Q (.ref t2) (upd H1 t2 (.tup [.int x, .int ((p + (putN n).length : Nat) : Int)])) := fun x hx t2 h2 =>
    k _ t2 (s1.trans (same_new h2 _)) (s1.free h2) (by rw [upd_same, hx])
  refine ⟨_, rfl, ng, rfl, ?_⟩
  cases ng with
  | true =>
    refine iteT ?_
    refine ⟨1, rfl, _, rfl, _, _, rfl, rfl, ?_⟩
    refine ⟨_, rfl, _, rfl, _, _, rfl, rfl, _, rfl, ?_⟩
    refine ite2 (fun c => ?_) (fun _ => ?_)
    · have := of_decide_eq_true c
      have := bits_le (i := -1 - (n : Int)) (by omega)
      have e : (-(1 : Int) - (n : Int)) = -1 - (n : Int) := rfl
      rw [e] at *
      omega
    exact ⟨_, rfl, _, rfl, sz (by show 2 ≤ 1000000; decide), fun t2 h2 => fin _ rfl t2 h2⟩
  | false =>
    refine iteF ?_
    refine ⟨_, rfl, _, rfl, _, _, rfl, rfl, _, rfl, ?_⟩
    refine ite2 (fun c => ?_) (fun _ => ?_)
    · have := of_decide_eq_true c
      have := bits_le (i := (n : Int)) (by omega)
      omega
    exact ⟨_, rfl, _, rfl, sz (by show 2 ≤ 1000000; decide), fun t2 h2 => fin _ rfl t2 h2⟩
def spTakeL (K : PySem.W.Frag) : Sp := fun vs H Q _ => ∃ (a : Addr) (ns : List Int) (p n : Nat) (rest : List Int), vs = [.ref a, .int p] ∧ SqL K H a (ns.map V.int) ∧ ns.length ≤ 100000 ∧ n ≤ 60000 ∧ ns.drop p = putN n ++ rest ∧
  ∀ H' t, Same H H' → H t = none → H' t = some (.tup [.int n, .int ((p + (putN n).length : Nat) : Int)]) → Q (.ref t) H'
theorem ok_takeL (F : Fun K "take_length" "take_length" sTakeL f fd) (T : Txt K mg C) (cN : C8.Cal P w K mg base 1 "take_number" (spTakeN K) []) : FnOk P w K mg base CX0 2 f fd ["row", "index"] (spTakeL K) := by
  refine F.ok scTakeL (fun vs H Q E h => by obtain ⟨a, ns, p, n, rest, rfl, _⟩ := h; rfl) (fun cdv A outer s H vs Q E hr h => ?_)
  obtain ⟨a, ns, p, n, rest, rfl, hS, hlen, hn, hd, k⟩ := h
  have nd := scTakeL.nd
  refine ⟨_, (pss_cons (ps_asg (C8.pe_c cN hr (by omega) (by rfl) (pa_cons (pv 0) (pa_cons (pv 1) pa_nil))) (pg_tup (by rfl) (pgs_cons (pg_name (i := 2) nd rfl (Or.inl rfl)) (pgs_cons (pg_name (i := 1) nd rfl (Or.inl rfl)) pgs_nil)))) (pss_cons ((ps_if ((pt_cmpR op_gt (pv 2) (C8.pe_gc (by rfl) T.c_LENGTH) (nomark _))) (pss_one (ps_never)) pss_nil)) (pss_one ((ps_ret ((pe_tup (pa_cons (pv 2) (pa_cons (pv 1) pa_nil))))))))), ?_⟩
  refine ⟨_, rfl, _, rfl, a, ns, p, n, rest, rfl, hS, hlen, by omega, hd, fun H1 t s1 nt ht => ?_⟩
  refine ⟨t, _, rfl, SqT.of ht, rfl, _, _, rfl, _, _, rfl, rfl, ?_⟩
  refine ⟨_, rfl, _, _, rfl, rfl, _, rfl, ?_⟩
  refine ite2 (fun c => ?_) (fun _ => ?_)
  · have := of_decide_eq_true c
    omega
  exact ⟨_, rfl, _, rfl, sz (by show 2 ≤ 1000000; decide), fun t2 h2 => k _ t2 (s1.trans (same_new h2 _)) (s1.free h2) (by rw [upd_same])⟩
/-! ## take_string -/
def spTakeS (K : PySem.W.Frag) : Sp := fun vs H Q _ => ∃ (a : Addr) (ns : List Int) (p : Nat) (x : Str) (rest : List Int), vs = [.ref a, .int p] ∧ SqL K H a (ns.map V.int) ∧ ns.length ≤ 100000 ∧ x.length ≤ 200 ∧ (∀ c ∈ x.cps.toList, okC c) ∧
  ns.drop p = (putN x.length ++ x.cps.toList.map (fun c : Nat => (c : Int) - 32)) ++ rest ∧
  ∀ H' t, Same H H' → H t = none → H' t = some (.tup [.str x, .int ((p + ((putN x.length).length + x.length) : Nat) : Int)]) → Q (.ref t) H'
theorem ok_takeS (F : Fun K "take_string" "take_string" sTakeS f fd) (T : Txt K mg C) (cL : C8.Cal P w K mg base 2 "take_length" (spTakeL K) []) : FnOk P w K mg base CX0 3 f fd ["row", "index"] (spTakeS K) := by
  refine F.ok scTakeS (fun vs H Q E h => by obtain ⟨a, ns, p, x, rest, rfl, _⟩ := h; rfl) (fun cdv A outer s H vs Q E hr h => ?_)
  obtain ⟨a, ns, p, x, rest, rfl, hS, hlen, hxl, hc, hd, k⟩ := h
  have nd := scTakeS.nd
  refine ⟨_, (pss_cons (ps_asg (C8.pe_c cL hr (by omega) (by rfl) (pa_cons (pv 0) (pa_cons (pv 1) pa_nil))) (pg_tup (by rfl) (pgs_cons (pg_name (i := 2) nd rfl (Or.inl rfl)) (pgs_cons (pg_name (i := 1) nd rfl (Or.inl rfl)) pgs_nil)))) (pss_cons ((ps_set (i := 3) nd rfl (Or.inl rfl) (pe_lst pa_nil))) (pss_cons ((ps_for PassesOwn.never rfl ((pi_range2 (by rfl) T.b_range (pa_cons (pv 1) (pa_cons ((pe_op op_add (pv 1) (pv 2))) pa_nil)))) ((pg_name (i := 4) nd rfl (Or.inl rfl))) (pss_cons ((ps_if ((pt_cmpR op_ge (pv 4) (pe_callB call_len_seq (by rfl) T.b_len PySem.boot_len (pa_cons (pv 0) pa_nil)) (nomark _))) (pss_one (ps_never)) pss_nil)) (pss_cons ((ps_if (PW.pt (pw_or (pt_cmpR op_gt (pe_ix ix_list (pv 0) (pv 4) (fun _ _ => rfl)) pe_int (nomark _)) (pw_or1 (pt_cmpR op_eq (pe_ix ix_list (pv 0) (pv 4) (fun _ _ => rfl)) pe_int (nomark _))))) (pss_one (ps_never)) pss_nil)) (pss_one ((ps_expr ((pe_bm PySem.F.plainAttrs_list PySem.F.slot_list_append PySem.F.type_list_append mt_append (pv 3) (pa_cons ((pe_ix ix_str ((C8.pe_gc (by rfl) T.c_CHARS)) ((pe_ix ix_list (pv 0) (pv 4) (fun _ _ => rfl))) (fun _ _ => rfl))) pa_nil)))))))))) (pss_one ((ps_ret ((pe_tup (pa_cons (pe_join pe_str (pv 3)) (pa_cons ((pe_op op_add (pv 1) (pv 2))) pa_nil)))))))))), ?_⟩
  have xl : x.cps.toList.length = x.length := by simp [Str.length]
  rw [List.append_assoc] at hd
  refine ⟨_, rfl, _, rfl, a, ns, p, x.length, _, rfl, hS, hlen, by omega, hd, fun H1 t s1 nt ht => ?_⟩
  refine ⟨t, _, rfl, SqT.of ht, rfl, _, _, rfl, _, _, rfl, rfl, ?_⟩
  refine ⟨sz (Nat.zero_le _), fun l hl => ?_⟩
  have s2 : Same H (upd H1 l (.lst [])) := s1.trans (same_new hl _)
  have hl0 := s1.free hl
  have hp2 := @putN_2 x.length (by omega)
  have hd2 : ns.drop (p + (putN x.length).length) = x.cps.toList.map (fun c : Nat => (c : Int) - 32) ++ rest := by
    rw [← List.drop_drop, hd, List.drop_left]
  have plen : p ≤ ns.length := by
    by_cases z : p ≤ ns.length
    · exact z
    · rw [List.drop_eq_nil_of_le (by omega)] at hd
      have := congrArg List.length hd
      simp at this
      have := putN_pos x.length
      omega
  have en : ((((p + (putN x.length).length : Nat) : Int) + (x.length : Int)) - ((p + (putN x.length).length : Nat) : Int)).toNat = x.cps.toList.length := by rw [xl]; omega
  refine ⟨_, rfl, _, rfl, _, rfl, _, _, rfl, rfl, _, _, rfl, ⟨by omega, by omega, by omega, by omega⟩, ?_⟩
  rw [en]
  refine for_range (fun i σ H' => ∃ u, σ = [some (.ref a), some (.int ((p + (putN x.length).length : Nat) : Int)), some (.int x.length), some (.ref l), u] ∧ Same H H' ∧ H' l = some (.lst (((x.cps.toList.take i).map (fun c => (⟨#[c]⟩ : Str))).map V.str)))
    ⟨none, rfl, s2, by rw [upd_same]; rfl⟩ ?_ ?_
  · rintro i σ H' hi ⟨u, rfl, s3, h3⟩
    obtain ⟨c, hci⟩ : ∃ c, x.cps.toList[i]? = some c := ⟨_, List.getElem?_eq_getElem hi⟩
    have oc := hc c (List.mem_of_getElem? hci)
    have hg : ns[p + (putN x.length).length + i]? = some ((c : Int) - 32) := by
      have e : (ns.drop (p + (putN x.length).length))[i]? = some ((c : Int) - 32) := by
        rw [hd2, List.getElem?_append_left (by simpa using hi), List.getElem?_map, hci]
        rfl
      rw [List.getElem?_drop] at e
      exact e
    have hgl := (List.getElem?_eq_some_iff.mp hg).1
    have e4 : ((p + (putN x.length).length : Nat) : Int) + (i : Int) = ((p + (putN x.length).length + i : Nat) : Int) := by omega
    have hS3 := Same.seq s3 hS
    have hix : atI (ns.map V.int) (((p + (putN x.length).length : Nat) : Int) + (i : Int)) = some (.int ((c : Int) - 32)) := by
      rw [e4]
      exact at_ints hg
    have h1 := oc.1
    have h2 := oc.2.1
    have h4 := oc.2.2
    refine ⟨_, rfl, _, rfl, a, _, rfl, .inl hS3, _, _, rfl, rfl, _, rfl, ?_⟩
    refine ite2 (fun z => ?_) (fun _ => ?_)
    · have := of_decide_eq_true z
      rw [List.length_map] at this
      omega
    refine ⟨_, rfl, _, rfl, a, _, _, _, rfl, rfl, hS3, hix, _, _, rfl, rfl, _, rfl, ?_⟩
    refine ite2 (fun z => ?_) (fun _ => ?_)
    · have : (94 : Int) < (c : Int) - 32 := of_decide_eq_true z
      omega
    refine ⟨_, rfl, _, rfl, a, _, _, _, rfl, rfl, hS3, hix, rfl, _, rfl, ?_⟩
    refine ite2 (fun z => ?_) (fun _ => ?_)
    · have e : (c : Int) - 32 = 5 := V.int.inj (of_decide_eq_true z)
      omega
    refine ⟨_, rfl, .inl ⟨rfl, _, SqL.of h3⟩, _, rfl, _, rfl, a, _, _, _, rfl, rfl, hS3, hix, _, _, c, rfl, rfl, sz (by rw [chars_len]; decide), ?_, l, _, _, rfl, rfl, h3, szl (by simp; omega), ?_⟩
    · rw [show (c : Int) - 32 = ((c - 32 : Nat) : Int) by omega]
      exact atI_nat (chars_at c (by omega) h1 h4)
    · refine ⟨_, rfl, same_mut s3 hl0 _, ?_⟩
      rw [upd_same, map_take hci, List.map_append]
      rfl
  · rintro σ H' ⟨u, rfl, s3, h3⟩
    rw [List.take_length] at h3
    refine ⟨⟨_, rfl⟩, _, rfl, _, l, x.cps.toList.map (fun c => (⟨#[c]⟩ : Str)), rfl, rfl, .inl (SqL.of h3), ?_, ?_⟩
    · have e1 : ((x.cps.toList.map (fun c => (⟨#[c]⟩ : Str))).map (·.length)) = x.cps.toList.map fun _ => 1 := by
        rw [List.map_map]
        rfl
      have e2 : ∀ l : List Nat, (l.map fun _ => 1).sum = l.length := fun l => by
        induction l with
        | nil => rfl
        | cons a l ih => rw [List.map_cons, List.sum_cons, ih, List.length_cons]; omega
      rw [e1, e2, List.length_map, xl]
      show x.length + x.length * 0 ≤ 16777216
      omega
    · refine ⟨_, rfl, _, rfl, _, _, rfl, rfl, sz (by show 2 ≤ 1000000; decide), fun t2 h2 => ?_⟩
      refine k _ t2 (s3.trans (same_new h2 _)) (s3.free h2) ?_
      rw [upd_same]
      have e5 : Txt.join (Str.ofString "") (x.cps.toList.map (fun c => (⟨#[c]⟩ : Str))) = x := join_chars x
      rw [e5]
      have e6 : ((p + (putN x.length).length : Nat) : Int) + (x.length : Int) = ((p + ((putN x.length).length + x.length) : Nat) : Int) := by omega
      show some (HO.tup [V.str x, V.int (((p + (putN x.length).length : Nat) : Int) + (x.length : Int))]) = _
      rw [e6]
end
end Mj
set_option Elab.async false
set_option linter.all false
set_option maxRecDepth 100000
set_option maxHeartbeats 4000000
namespace Mj
open PySem L2
theorem nat1 (p n : Nat) : (p : Int) + 1 = ((p + 1 : Nat) : Int) := rfl
section
variable {P : Program} {w : World} {K : PySem.W.Frag} {mg : Str → Option Value} {base : Heap} {C : Addr} {f : Addr} {fd : FuncData}
def spTV (K : PySem.W.Frag) : Nat → Sp
  | 0 => fun _ _ _ _ => False
  | k + 1 => fun vs H Q _ => ∃ (a : Addr) (ns : List Int) (p δ : Nat) (d : PyData) (rest : List Int), vs = [.ref a, .int p, .int δ] ∧ SqL K H a (ns.map V.int) ∧ ns.length ≤ 100000 ∧ OkD k d ∧ k ≤ δ ∧ ns.drop p = packD k d ++ rest ∧
      ∀ H' t v, Same H H' → H t = none → H' t = some (.tup [v, .int ((p + (packD k d).length : Nat) : Int)]) → Dp K H' v d → Q (.ref t) H'
def spTT (K : PySem.W.Frag) : Nat → Sp
  | 0 => fun _ _ _ _ => False
  | k + 1 => fun vs H Q _ => ∃ (a : Addr) (ns : List Int) (p δ : Nat) (ds : List PyData) (rest : List Int), vs = [.ref a, .int p, .int δ] ∧ SqL K H a (ns.map V.int) ∧ ns.length ≤ 100000 ∧ ds.length ≤ 10 ∧ (∀ d ∈ ds, OkD k d) ∧ k + 1 ≤ δ ∧
      ns.drop p = (putN ds.length ++ (ds.map (packD k)).flatten) ++ rest ∧
      ∀ H' t v, Same H H' → H t = none → H' t = some (.tup [v, .int ((p + ((putN ds.length).length + ((ds.map (packD k)).flatten).length) : Nat) : Int)]) → Dp K H' v (.tuple ds) → Q (.ref t) H'
theorem flat_split {f : PyData → List Int} {ds : List PyData} {i : Nat} {d : PyData} (h : ds[i]? = some d) : (ds.map f).flatten = ((ds.take i).map f).flatten ++ (f d ++ ((ds.drop (i + 1)).map f).flatten) := by
  have e : ds = ds.take i ++ d :: ds.drop (i + 1) := by
    obtain ⟨hi, e⟩ := List.getElem?_eq_some_iff.mp h
    have := (List.take_append_drop i ds).symm
    rw [List.drop_eq_getElem_cons hi, e] at this
    exact this
  conv => lhs; rw [e]
  simp
theorem ok_tt {k : Nat} (F : Fun K "take_tuple" "take_tuple" sTakeT f fd) (T : Txt K mg C) (cL : C8.Cal P w K mg base 2 "take_length" (spTakeL K) []) (c : C8.Cal P w K mg base (2 * k + 4) "take_value" (spTV K (k + 1)) []) :
    FnOk P w K mg base CX0 (2 * k + 5) f fd ["row", "index", "depth"] (spTT K (k + 1)) := by
  refine F.ok scTakeT (fun vs H Q E h => by obtain ⟨a, ns, p, δ, ds, rest, rfl, _⟩ := h; rfl) (fun cdv A outer s H vs Q E hr h => ?_)
  obtain ⟨a, ns, p, δ, ds, rest, rfl, hS, hlen, ho, hok, hδ, hd, q⟩ := h
  have nd := scTakeT.nd
  refine ⟨_, (pss_cons ((ps_if ((pt_cmpR op_eq (pv 2) pe_int (nomark _))) (pss_one (ps_never)) pss_nil)) (pss_cons (ps_asg (C8.pe_c cL hr (by omega) (by rfl) (pa_cons (pv 0) (pa_cons (pv 1) pa_nil))) (pg_tup (by rfl) (pgs_cons (pg_name (i := 3) nd rfl (Or.inl rfl)) (pgs_cons (pg_name (i := 1) nd rfl (Or.inl rfl)) pgs_nil)))) (pss_cons ((ps_set (i := 4) nd rfl (Or.inl rfl) (pe_lst pa_nil))) (pss_cons ((ps_for PassesOwn.never rfl ((pi_range1 (by rfl) T.b_range (pa_cons (pv 3) pa_nil))) ((pg_name (i := 5) nd rfl (Or.inl rfl))) (pss_cons (ps_asg (C8.pe_c c hr (by omega) (by rfl) (pa_cons (pv 0) (pa_cons (pv 1) (pa_cons ((pe_op op_sub (pv 2) (pe_int))) pa_nil)))) (pg_tup (by rfl) (pgs_cons (pg_name (i := 6) nd rfl (Or.inl rfl)) (pgs_cons (pg_name (i := 1) nd rfl (Or.inl rfl)) pgs_nil)))) (pss_one ((ps_expr ((pe_bm PySem.F.plainAttrs_list PySem.F.slot_list_append PySem.F.type_list_append mt_append (pv 4) (pa_cons (pv 6) pa_nil))))))))) (pss_one ((ps_ret ((pe_tup (pa_cons ((pe_callTy call_tuple_of (by rfl) T.b_tuple (by decide +kernel) (pa_cons (pv 4) pa_nil))) (pa_cons (pv 1) pa_nil))))))))))), ?_⟩
  have im : immAll ds = true := immAll_iff.mpr fun d hd => OkD.imm k (hok d hd)
  refine ⟨_, rfl, rfl, _, rfl, ?_⟩
  refine ite2 (fun z => ?_) (fun _ => ?_)
  · have := V.int.inj (of_decide_eq_true z)
    omega
  rw [List.append_assoc] at hd
  refine ⟨_, rfl, _, rfl, a, ns, p, ds.length, _, rfl, hS, hlen, by omega, hd, fun H1 t s1 nt ht => ?_⟩
  refine ⟨t, _, rfl, SqT.of ht, rfl, _, _, rfl, _, _, rfl, rfl, ?_⟩
  refine ⟨sz (Nat.zero_le _), fun l hl => ?_⟩
  have s2 : Same H (upd H1 l (.lst [])) := s1.trans (same_new hl _)
  have hl0 := s1.free hl
  have hd2 : ns.drop (p + (putN ds.length).length) = (ds.map (packD k)).flatten ++ rest := by rw [← List.drop_drop, hd, List.drop_left]
  refine ⟨_, rfl, _, rfl, by omega, by omega, ?_⟩
  have en : ((ds.length : Int)).toNat = ds.length := by omega
  rw [en]
  refine for_range (fun i σ H' => ∃ (u5 u6 : Option V) (us : List V), σ = [some (.ref a), some (.int ((p + (putN ds.length).length + (((ds.take i).map (packD k)).flatten).length : Nat) : Int)), some (.int δ), some (.int ds.length), some (.ref l), u5, u6] ∧
      Same H H' ∧ H' l = some (.lst us) ∧ DpAll K H' us (ds.take i))
    ⟨none, none, [], rfl, s2, upd_same, .nil⟩ ?_ ?_
  · rintro i σ H' hi ⟨u5, u6, us, rfl, s3, h3, h4⟩
    obtain ⟨d, hdi⟩ : ∃ d, ds[i]? = some d := ⟨_, List.getElem?_eq_getElem hi⟩
    have hdm := List.mem_of_getElem? hdi
    have hul := h4.length
    have hd3 : ns.drop (p + (putN ds.length).length + (((ds.take i).map (packD k)).flatten).length) = packD k d ++ (((ds.drop (i + 1)).map (packD k)).flatten ++ rest) := by
      rw [← List.drop_drop, hd2, flat_split hdi, List.append_assoc, List.drop_left, List.append_assoc]
    refine ⟨_, rfl, _, rfl, _, rfl, _, _, rfl, rfl, a, ns, _, δ - 1, d, _, ?_, Same.seq s3 hS, hlen, hok d hdm, by omega, hd3, fun H4 t4 v s4 nt4 ht4 hdp => ?_⟩
    · show [V.ref a, V.int _, V.int ((δ : Int) - 1)] = [V.ref a, V.int _, V.int ((δ - 1 : Nat) : Int)]
      rw [show ((δ : Int) - 1) = ((δ - 1 : Nat) : Int) by omega]
    refine ⟨t4, _, rfl, SqT.of ht4, rfl, _, _, rfl, _, _, rfl, rfl, ?_⟩
    have h5 := s4 _ _ h3
    refine ⟨_, rfl, .inl ⟨rfl, _, SqL.of h5⟩, _, rfl, l, _, _, rfl, rfl, h5, szl (by rw [hul, List.length_take]; omega), ?_⟩
    have kt : KT H4 (upd H4 l (.lst (us ++ [v]))) := ((Off.refl l H4).upd _).kt h5
    refine ⟨some (.int ((0 : Int) + (i : Int))), some v, us ++ [v], ?_, same_mut (s3.trans s4) hl0 _, upd_same, ?_⟩
    · rw [flat_take hdi, List.length_append, ← Nat.add_assoc]
      rfl
    · have e : ds.take (i + 1) = ds.take i ++ [d] := by rw [List.take_add_one, hdi]; rfl
      rw [e]
      have imt : immAll (ds.take i) = true := immAll_iff.mpr fun x hx => OkD.imm k (hok x (List.mem_of_mem_take hx))
      exact (DpAll.kt kt imt (h4.same s4)).append (.cons (Dp.kt kt (OkD.imm k (hok d hdm)) hdp) .nil)
  · rintro σ H' ⟨u5, u6, us, rfl, s3, h3, h4⟩
    rw [List.take_length] at h4 ⊢
    refine ⟨_, rfl, l, us, rfl, .inl ⟨SqL.of h3, fun m hm => ?_⟩⟩
    have s4 := same_new hm (.tup us)
    refine ⟨_, rfl, sz (by show 2 ≤ 1000000; decide), fun t2 h2 => ?_⟩
    have s5 := same_new h2 (.tup [.ref m, .int ((p + (putN ds.length).length + ((ds.map (packD k)).flatten).length : Nat) : Int)])
    refine q _ t2 (.ref m) (s3.trans (s4.trans s5)) (s3.free (s4.free h2)) ?_ ?_
    · rw [upd_same, Nat.add_assoc]
    · exact .tup (SqT.of (s5 _ _ upd_same)) (DpAll.same s5 (DpAll.same s4 h4))
theorem ok_tv {k : Nat} (F : Fun K "take_value" "take_value" sTakeV f fd) (T : Txt K mg C) (cI : C8.Cal P w K mg base 2 "take_integer" (spTakeI K) []) (cS : C8.Cal P w K mg base 3 "take_string" (spTakeS K) [])
    (c : C8.Cal P w K mg base (2 * k + 3) "take_tuple" (spTT K k) []) : FnOk P w K mg base CX0 (2 * k + 4) f fd ["row", "index", "depth"] (spTV K (k + 1)) := by
  refine F.ok scTakeV (fun vs H Q E h => by obtain ⟨a, ns, p, δ, d, rest, rfl, _⟩ := h; rfl) (fun cdv A outer s H vs Q E hr h => ?_)
  obtain ⟨a, ns, p, δ, d, rest, rfl, hS, hlen, ok, hδ, hd, q⟩ := h
  have nd := scTakeV.nd
  refine ⟨_, (pss_cons ((ps_if ((pt_cmpR op_ge (pv 1) (pe_callB call_len_seq (by rfl) T.b_len PySem.boot_len (pa_cons (pv 0) pa_nil)) (nomark _))) (pss_one (ps_never)) pss_nil)) (pss_cons ((ps_set (i := 3) nd rfl (Or.inl rfl) ((pe_ix ix_list (pv 0) (pv 1) (fun _ _ => rfl))))) (pss_cons ((ps_if ((pt_cmpR op_eq (pv 3) pe_int (nomark _))) (pss_one ((ps_ret ((pe_tup (pa_cons (pe_non) (pa_cons ((pe_op op_add (pv 1) (pe_int))) pa_nil))))))) pss_nil)) (pss_cons ((ps_if ((pt_cmpR op_le (pv 3) pe_int (nomark _))) (pss_one ((ps_ret ((pe_tup (pa_cons (pe_cmpR op_eq (pv 3) pe_int (nomark _)) (pa_cons ((pe_op op_add (pv 1) (pe_int))) pa_nil))))))) pss_nil)) (pss_cons ((ps_if ((pt_cmpR op_le (pv 3) pe_int (nomark _))) (pss_one ((ps_ret ((C8.pe_c cI hr (by omega) (by rfl) (pa_cons (pv 0) (pa_cons ((pe_op op_add (pv 1) (pe_int))) (pa_cons (pe_cmpR op_eq (pv 3) pe_int (nomark _)) pa_nil)))))))) pss_nil)) (pss_cons ((ps_if ((pt_cmpR op_eq (pv 3) pe_int (nomark _))) (pss_one ((ps_ret ((C8.pe_c cS hr (by omega) (by rfl) (pa_cons (pv 0) (pa_cons ((pe_op op_add (pv 1) (pe_int))) pa_nil))))))) pss_nil)) (pss_cons ((ps_if ((pt_cmpR op_eq (pv 3) pe_int (nomark _))) (pss_one ((ps_ret ((C8.pe_c c hr (by omega) (by rfl) (pa_cons (pv 0) (pa_cons ((pe_op op_add (pv 1) (pe_int))) (pa_cons (pv 2) pa_nil)))))))) pss_nil)) (pss_one (ps_never))))))))), ?_⟩
  have e1 : (p : Int) + 1 = ((p + 1 : Nat) : Int) := rfl
  have tag : ∀ (x : Int) (r : List Int), packD k d = x :: r → ns[p]? = some x ∧ ns.drop (p + 1) = r ++ rest ∧ p < ns.length := fun x r e => by
    rw [e] at hd
    exact drop_head (x := x) (r := r ++ rest) hd
  -- index >= len(row) never holds; the tag
  have pre : ∀ (x : Int) (r : List Int), packD k d = x :: r → decide (((ns.map V.int).length : Int) ≤ (p : Int)) = false ∧ atI (ns.map V.int) (p : Int) = some (.int x) := fun x r e => by
    obtain ⟨g1, _, g3⟩ := tag x r e
    refine ⟨decide_eq_false ?_, at_ints g1⟩
    rw [List.length_map]
    omega
  cases d with
  | none =>
    have e := packD_none k
    obtain ⟨b1, b2⟩ := pre _ _ e
    refine ⟨_, rfl, _, rfl, a, _, rfl, .inl hS, _, _, rfl, rfl, _, rfl, ?_⟩
    rw [show decide (((ns.map V.int).length : Int) ≤ (p : Int)) = false from b1]
    refine iteF ?_
    refine ⟨_, rfl, _, rfl, a, _, _, _, rfl, rfl, hS, b2, ?_⟩
    refine ⟨_, rfl, rfl, _, rfl, iteT ?_⟩
    refine ⟨_, rfl, _, _, rfl, rfl, sz (by show 2 ≤ 1000000; decide), fun t2 h2 => ?_⟩
    exact q _ t2 .non (same_new h2 _) h2 (by rw [upd_same, e]; rfl) .non
  | bool b =>
    have e := packD_bool k b
    obtain ⟨b1, b2⟩ := pre _ _ e
    refine ⟨_, rfl, _, rfl, a, _, rfl, .inl hS, _, _, rfl, rfl, _, rfl, ?_⟩
    rw [show decide (((ns.map V.int).length : Int) ≤ (p : Int)) = false from b1]
    refine iteF ?_
    refine ⟨_, rfl, _, rfl, a, _, _, _, rfl, rfl, hS, b2, ?_⟩
    have fin : ∀ t2, H t2 = none → Q (.ref t2) (upd H t2 (.tup [.bl b, .int ((p : Int) + 1)])) := fun t2 h2 => q _ t2 (.bl b) (same_new h2 _) h2 (by rw [upd_same, e]; rfl) (.bl b)
    cases b with
    | true =>
      refine ⟨_, rfl, rfl, _, rfl, iteF ?_⟩
      refine ⟨_, rfl, _, _, rfl, rfl, _, rfl, iteT ?_⟩
      exact ⟨_, rfl, rfl, _, rfl, _, _, rfl, rfl, sz (by show 2 ≤ 1000000; decide), fun t2 h2 => fin t2 h2⟩
    | false =>
      refine ⟨_, rfl, rfl, _, rfl, iteF ?_⟩
      refine ⟨_, rfl, _, _, rfl, rfl, _, rfl, iteT ?_⟩
      exact ⟨_, rfl, rfl, _, rfl, _, _, rfl, rfl, sz (by show 2 ≤ 1000000; decide), fun t2 h2 => fin t2 h2⟩
  | int i =>
    have hi := OkD_int ok
    have e := packD_int k i
    by_cases c0 : 0 ≤ i
    · rw [if_pos c0] at e
      obtain ⟨b1, b2⟩ := pre _ _ e
      obtain ⟨_, g2, _⟩ := tag _ _ e
      refine ⟨_, rfl, _, rfl, a, _, rfl, .inl hS, _, _, rfl, rfl, _, rfl, ?_⟩
      rw [show decide (((ns.map V.int).length : Int) ≤ (p : Int)) = false from b1]
      refine iteF ?_
      refine ⟨_, rfl, _, rfl, a, _, _, _, rfl, rfl, hS, b2, ?_⟩
      refine ⟨_, rfl, rfl, _, rfl, iteF ?_⟩
      refine ⟨_, rfl, _, _, rfl, rfl, _, rfl, iteF ?_⟩
      refine ⟨_, rfl, _, _, rfl, rfl, _, rfl, iteT ?_⟩
      refine ⟨_, rfl, _, rfl, _, _, rfl, rfl, _, rfl, rfl, a, ns, p + 1, i.toNat, false, rest, rfl, hS, hlen, by omega, g2, fun H' t s1 nt ht => ?_⟩
      refine q H' t (.int i) s1 nt ?_ (.int i)
      rw [ht, e]
      rw [show (if false = true then -1 - ((i.toNat : Nat) : Int) else ((i.toNat : Nat) : Int)) = i by rw [if_neg (by decide)]; omega]
      rw [List.length_cons, show p + 1 + (putN i.toNat).length = p + ((putN i.toNat).length + 1) by omega]
    · rw [if_neg c0] at e
      obtain ⟨b1, b2⟩ := pre _ _ e
      obtain ⟨_, g2, _⟩ := tag _ _ e
      refine ⟨_, rfl, _, rfl, a, _, rfl, .inl hS, _, _, rfl, rfl, _, rfl, ?_⟩
      rw [show decide (((ns.map V.int).length : Int) ≤ (p : Int)) = false from b1]
      refine iteF ?_
      refine ⟨_, rfl, _, rfl, a, _, _, _, rfl, rfl, hS, b2, ?_⟩
      refine ⟨_, rfl, rfl, _, rfl, iteF ?_⟩
      refine ⟨_, rfl, _, _, rfl, rfl, _, rfl, iteF ?_⟩
      refine ⟨_, rfl, _, _, rfl, rfl, _, rfl, iteT ?_⟩
      refine ⟨_, rfl, _, rfl, _, _, rfl, rfl, _, rfl, rfl, a, ns, p + 1, (-1 - i).toNat, true, rest, rfl, hS, hlen, by omega, g2, fun H' t s1 nt ht => ?_⟩
      refine q H' t (.int i) s1 nt ?_ (.int i)
      rw [ht, e]
      rw [show (if true = true then -1 - (((-1 - i).toNat : Nat) : Int) else (((-1 - i).toNat : Nat) : Int)) = i by rw [if_pos rfl]; omega]
      rw [List.length_cons, show p + 1 + (putN (-1 - i).toNat).length = p + ((putN (-1 - i).toNat).length + 1) by omega]
  | str x =>
    have hi := OkD_str ok
    have e := packD_str k x
    obtain ⟨b1, b2⟩ := pre _ _ e
    obtain ⟨_, g2, _⟩ := tag _ _ e
    refine ⟨_, rfl, _, rfl, a, _, rfl, .inl hS, _, _, rfl, rfl, _, rfl, ?_⟩
    rw [show decide (((ns.map V.int).length : Int) ≤ (p : Int)) = false from b1]
    refine iteF ?_
    refine ⟨_, rfl, _, rfl, a, _, _, _, rfl, rfl, hS, b2, ?_⟩
    refine ⟨_, rfl, rfl, _, rfl, iteF ?_⟩
    refine ⟨_, rfl, _, _, rfl, rfl, _, rfl, iteF ?_⟩
    refine ⟨_, rfl, _, _, rfl, rfl, _, rfl, iteF ?_⟩
    refine ⟨_, rfl, rfl, _, rfl, iteT ?_⟩
    refine ⟨_, rfl, _, rfl, _, _, rfl, rfl, a, ns, p + 1, x, rest, rfl, hS, hlen, hi.1, hi.2, g2, fun H' t s1 nt ht => ?_⟩
    refine q H' t (.str x) s1 nt ?_ (.str x)
    have xl : x.cps.toList.length = x.length := by simp [Str.length]
    rw [ht, e, List.length_cons, List.length_append, List.length_map, xl, show p + 1 + ((putN x.length).length + x.length) = p + ((putN x.length).length + x.length + 1) by omega]
  | list _ => exact (OkD_list ok).elim
  | dict _ => exact (OkD_dict ok).elim
  | tuple ds =>
    obtain ⟨k, rfl⟩ : ∃ j, k = j + 1 := by
      cases k with
      | zero => cases ok
      | succ j => exact ⟨j, rfl⟩
    obtain ⟨o1, o2⟩ : ds.length ≤ 10 ∧ ∀ d ∈ ds, OkD k d := ok
    have e := packD_tup k ds
    obtain ⟨b1, b2⟩ := pre _ _ e
    obtain ⟨_, g2, _⟩ := tag _ _ e
    refine ⟨_, rfl, _, rfl, a, _, rfl, .inl hS, _, _, rfl, rfl, _, rfl, ?_⟩
    rw [show decide (((ns.map V.int).length : Int) ≤ (p : Int)) = false from b1]
    refine iteF ?_
    refine ⟨_, rfl, _, rfl, a, _, _, _, rfl, rfl, hS, b2, ?_⟩
    refine ⟨_, rfl, rfl, _, rfl, iteF ?_⟩
    refine ⟨_, rfl, _, _, rfl, rfl, _, rfl, iteF ?_⟩
    refine ⟨_, rfl, _, _, rfl, rfl, _, rfl, iteF ?_⟩
    refine ⟨_, rfl, rfl, _, rfl, iteF ?_⟩
    refine ⟨_, rfl, rfl, _, rfl, iteT ?_⟩
    refine ⟨_, rfl, _, rfl, _, _, rfl, rfl, _, rfl, a, ns, p + 1, δ, ds, rest, rfl, hS, hlen, o1, o2, hδ, g2, fun H' t v s1 nt ht hv => ?_⟩
    refine q H' t v s1 nt ?_ hv
    rw [ht, e, List.length_cons, List.length_append, show p + 1 + ((putN ds.length).length + ((ds.map (packD k)).flatten).length) = p + ((putN ds.length).length + ((ds.map (packD k)).flatten).length + 1) by omega]
/-! ## unpack -/
def spUnpack (K : PySem.W.Frag) : Sp := fun vs H Q _ => ∃ (a : Addr) (d : PyData), vs = [.ref a] ∧ SqL K H a ((packD 2 d).map V.int) ∧ OkD 2 d ∧ ∀ H' v, Same H H' → Dp K H' v d → Q v H'
theorem ok_unpack (F : Fun K "unpack" "unpack" sUnpack f fd) (T : Txt K mg C) (c : C8.Cal P w K mg base 8 "take_value" (spTV K 3) []) : FnOk P w K mg base CX0 9 f fd ["row"] (spUnpack K) := by
  refine F.ok scUnpack (fun vs H Q E h => by obtain ⟨a, d, rfl, _⟩ := h; rfl) (fun cdv A outer s H vs Q E hr h => ?_)
  obtain ⟨a, d, rfl, hS, ok, q⟩ := h
  have nd := scUnpack.nd
  refine ⟨_, (pss_cons (ps_asg (C8.pe_c c hr (by omega) (by rfl) (pa_cons (pv 0) (pa_cons (pe_int) (pa_cons ((C8.pe_gc (by rfl) T.c_DEPTH)) pa_nil)))) (pg_tup (by rfl) (pgs_cons (pg_name (i := 1) nd rfl (Or.inl rfl)) (pgs_cons (pg_name (i := 2) nd rfl (Or.inl rfl)) pgs_nil)))) (pss_cons ((ps_if ((pt_cmpR op_lt (pv 2) (pe_callB call_len_seq (by rfl) T.b_len PySem.boot_len (pa_cons (pv 0) pa_nil)) (nomark _))) (pss_one (ps_never)) pss_nil)) (pss_one ((ps_ret (pv 1)))))), ?_⟩
  have hl := packD_len 2 d ok
  rw [lenB_2] at hl
  refine ⟨_, rfl, a, packD 2 d, 0, 20, d, [], rfl, hS, by omega, ok, by decide, by simp, fun H1 t v s1 nt ht hv => ?_⟩
  refine ⟨t, _, rfl, SqT.of ht, rfl, _, _, rfl, _, _, rfl, rfl, ?_⟩
  refine ⟨_, rfl, _, rfl, a, _, rfl, .inl (Same.seq s1 hS), _, _, rfl, rfl, _, rfl, ?_⟩
  refine ite2 (fun z => ?_) (fun _ => ?_)
  · have h : (((0 + (packD 2 d).length : Nat)) : Int) < (((packD 2 d).map V.int).length : Int) := of_decide_eq_true z
    rw [List.length_map, Nat.zero_add] at h
    exact absurd h (Int.lt_irrefl _)
  exact ⟨_, rfl, q H1 v s1 hv⟩
end
end Mj
set_option Elab.async false
set_option linter.all false
set_option maxRecDepth 100000
set_option maxHeartbeats 4000000
namespace Mj
open PySem L2
/-! ## slices -/
theorem cut_from (xs : List V) (i : Nat) : cutV xs (some (i : Int)) none = xs.drop i := by
  unfold cutV
  rw [HT.sIx_nat, HT.sIx_none]
  by_cases h : i ≤ xs.length
  · rw [Nat.min_eq_left h, List.take_of_length_le (by rw [List.length_drop]; exact Nat.le_refl _)]
  · rw [Nat.min_eq_right (by omega), List.drop_eq_nil_of_le (Nat.le_refl _), List.drop_eq_nil_of_le (by omega)]
    simp
theorem cut_to (xs : List V) (j : Nat) : cutV xs none (some (j : Int)) = xs.take j := by
  unfold cutV
  rw [HT.sIx_nat, HT.sIx_none, List.drop_zero, Nat.sub_zero]
  by_cases h : j ≤ xs.length
  · rw [Nat.min_eq_left h]
  · rw [Nat.min_eq_right (by omega), List.take_of_length_le (Nat.le_refl _), List.take_of_length_le (by omega)]
theorem cut_mid (xs : List V) (i j : Nat) : cutV xs (some (i : Int)) (some (j : Int)) = (xs.drop i).take (j - i) := by
  unfold cutV
  rw [HT.sIx_nat, HT.sIx_nat]
  by_cases h : i ≤ xs.length
  · rw [Nat.min_eq_left h]
    by_cases h2 : j ≤ xs.length
    · rw [Nat.min_eq_left h2]
    · rw [Nat.min_eq_right (by omega), List.take_of_length_le (by rw [List.length_drop]; exact Nat.le_refl _), List.take_of_length_le (by rw [List.length_drop]; omega)]
  · rw [Nat.min_eq_right (show xs.length ≤ i by omega), List.drop_eq_nil_of_le (Nat.le_refl _), List.drop_eq_nil_of_le (show xs.length ≤ i by omega)]
    simp
theorem rep1 (n : Nat) (v : V) : (List.replicate n [v]).flatten = List.replicate n v := by
  induction n with
  | zero => rfl
  | succ n ih => rw [List.replicate_succ, List.flatten_cons, ih]; rfl
/-! ## equality of rows of ints -/
theorem lay_ints : ∀ ns : List Int, PyData.canLayAll0 (ns.map PyData.int) = true
  | [] => rfl
  | n :: ns => by
    have := lay_ints ns
    simp [PyData.canLayAll0, PyData.canLay0, this]
theorem dep_ints : ∀ ns : List Int, PyData.depthAll (ns.map PyData.int) = 0
  | [] => rfl
  | n :: ns => by
    have := dep_ints ns
    simp [PyData.depthAll, PyData.depth, this]
theorem shT (ns : List Int) : SeqAt.shaped (.tuple (ns.map PyData.int)) = true := by
  simp [SeqAt.shaped, PyData.canLay0, PyData.depth, lay_ints, dep_ints]
theorem shL (ns : List Int) : SeqAt.shaped (.list (ns.map PyData.int)) = true := by
  simp [SeqAt.shaped, PyData.canLay0, PyData.depth, lay_ints, dep_ints]
theorem eqv_ints : ∀ (ns ms : List Int), PyData.eqvAll (ns.map PyData.int) (ms.map PyData.int) = decide (ns = ms)
  | [], [] => rfl
  | [], _ :: _ => rfl
  | _ :: _, [] => rfl
  | n :: ns, m :: ms => by
    show (PyData.eqv (.int n) (.int m) && PyData.eqvAll (ns.map PyData.int) (ms.map PyData.int)) = _
    rw [eqv_ints ns ms]
    simp [PyData.eqv]
    rfl
theorem eqvL (ns ms : List Int) : PyData.eqv (.list (ns.map PyData.int)) (.list (ms.map PyData.int)) = decide (ns = ms) := eqv_ints ns ms
theorem eqvT (ns ms : List Int) : PyData.eqv (.tuple (ns.map PyData.int)) (.tuple (ms.map PyData.int)) = decide (ns = ms) := eqv_ints ns ms
theorem dpL {K : PySem.W.Frag} {H : Hp} {a : Addr} {ns : List Int} (h : SqL K H a (ns.map V.int)) : Dp K H (.ref a) (.list (ns.map PyData.int)) := .lst h (ints_dp ns)
theorem dpT {K : PySem.W.Frag} {H : Hp} {a : Addr} {ns : List Int} (h : SqT K H a (ns.map V.int)) : Dp K H (.ref a) (.tuple (ns.map PyData.int)) := .tup h (ints_dp ns)
theorem sec_blank {kd : Nat} {pl : List Int} (h : 1 ≤ kd) : secOf kd pl ≠ List.replicate 64 0 := by
  intro e
  have : (secOf kd pl)[4]? = (List.replicate 64 (0 : Int))[4]? := by rw [e]
  simp [secOf, ckb, bodyOf] at this
  omega
section
variable {P : Program} {w : World} {K : PySem.W.Frag} {mg : Str → Option Value} {base : Heap} {C : Addr} {f : Addr} {fd : FuncData}
/-- a def with defaults that lets nothing out -/
theorem okD {x qual : Str} {params : Arguments} {body : List Stmt} {scope : Scope} {dvs : List V} {kws : List (Str × V)} {N ps : List Str} {k : Nat} {sp : Sp} (F : FunD K x qual params body scope dvs kws f fd) (S : FnScope N ps scope) (len : ∀ vs H Q E, sp vs H Q E → vs.length = ps.length)
    (hbody : ∀ (cdv : Value) (A : Around) (outer : List Env) (s : Shared) (H : Hp) (vs : List V) (Q : VK) (E : XK), Room k (A.deeper (PyProof.Rows.envOfC qual scope s.heap.objs.size f cdv)) → sp vs H Q E →
      ∃ t, PSs (cxOf CX0 P w K mg base N qual scope f cdv A outer s H E).nox body t ∧ t { nx := fun _ H' => Q .non H', rt := Q } (start N vs) H) : FnOk P w K mg base CX0 (k + 1) f fd ps sp :=
  F.ok S len fun cdv A outer s H vs Q E hr h => let ⟨t, h1, q⟩ := hbody cdv A outer s H vs Q E hr h; ⟨t, h1.nox, q⟩
/-! ## checksum, check_bytes -/
def spCk (K : PySem.W.Frag) : Sp := fun vs H Q _ => ∃ (a t : Addr) (ns : List Int), vs = [.ref a, .ref t] ∧ SqL K H a (ns.map V.int) ∧ SqT K H t [.int 1, .int 1] ∧
  ∀ H' u, Same H H' → H u = none → H' u = some (.tup [.int (ck ns).1, .int (ck ns).2]) → Q (.ref u) H'
theorem ck_take {ns : List Int} {i : Nat} {x : Int} (h : ns[i]? = some x) : ck (ns.take (i + 1)) = ckStep (ck (ns.take i)) x := by
  unfold ck
  rw [List.take_add_one, h, List.foldl_append]
  rfl
theorem ok_ck {dvs : List V} {kws : List (Str × V)} (F : FunD K "checksum" "checksum" (defArgs sCk) (defBody sCk) (defScope sCk) dvs kws f fd) (T : Txt K mg C) : FnOk P w K mg base CX0 1 f fd ["row", "start"] (spCk K) := by
  refine okD F scCk (fun vs H Q E h => by obtain ⟨a, t, ns, rfl, _⟩ := h; rfl) (fun cdv A outer s H vs Q E hr h => ?_)
  obtain ⟨a, t, ns, rfl, hS, hT, q⟩ := h
  have nd := scCk.nd
  refine ⟨_, (pss_cons (ps_asg (pv 1) (pg_tup (by rfl) (pgs_cons (pg_name (i := 2) nd rfl (Or.inl rfl)) (pgs_cons (pg_name (i := 3) nd rfl (Or.inl rfl)) pgs_nil)))) (pss_cons ((ps_for PassesOwn.never rfl (pi_list (pv 0)) ((pg_name (i := 4) nd rfl (Or.inl rfl))) (pss_cons ((ps_set (i := 2) nd rfl (Or.inl rfl) ((pe_op op_mod ((pe_op op_add ((pe_op op_add (pv 2) (pv 4))) (pe_int))) ((C8.pe_gc (by rfl) T.c_MODULUS)))))) (pss_one ((ps_set (i := 3) nd rfl (Or.inl rfl) ((pe_op op_mod ((pe_op op_add (pv 3) (pv 2))) ((C8.pe_gc (by rfl) T.c_MODULUS)))))))))) (pss_one ((ps_ret ((pe_tup (pa_cons (pv 2) (pa_cons (pv 3) pa_nil))))))))), ?_⟩
  refine ⟨_, rfl, t, _, rfl, hT, rfl, _, _, rfl, _, _, rfl, rfl, ?_⟩
  refine ⟨_, rfl, a, rfl, ⟨_, hS⟩, for_list (K := K) (a := a) (xs := ns.map V.int) (fun i σ H' => ∃ u, σ = [some (.ref a), some (.ref t), some (.int (ck (ns.take i)).1), some (.int (ck (ns.take i)).2), u] ∧ H' = H)
    ⟨none, rfl, rfl⟩ (fun i σ H' _ ⟨_, _, e⟩ => by rw [e]; exact hS) ?_ ?_⟩
  · rintro i x σ H' hi ⟨u, rfl, rfl⟩
    obtain ⟨z, hz, rfl⟩ : ∃ z, ns[i]? = some z ∧ V.int z = x := by
      rw [List.getElem?_map] at hi
      cases e : ns[i]? with
      | none => rw [e] at hi; cases hi
      | some z => rw [e] at hi; exact ⟨z, rfl, Option.some.inj hi⟩
    refine ⟨_, rfl, _, rfl, _, _, rfl, rfl, _, _, rfl, rfl, _, _, rfl, rfl, (by show (0 : Int) < 65521; decide), ?_⟩
    refine ⟨_, rfl, _, rfl, _, _, rfl, rfl, _, _, rfl, rfl, (by show (0 : Int) < 65521; decide), ?_⟩
    refine ⟨some (.int z), ?_, rfl⟩
    rw [ck_take hz]
    rfl
  · rintro σ H' ⟨u, rfl, rfl⟩
    rw [List.length_map, List.take_length]
    exact ⟨_, rfl, _, rfl, sz (by show 2 ≤ 1000000; decide), fun t2 h2 => q _ t2 (same_new h2 _) h2 upd_same⟩
def spCkb (K : PySem.W.Frag) : Sp := fun vs H Q _ => ∃ (t : Addr) (x y : Int), vs = [.ref t] ∧ SqT K H t [.int x, .int y] ∧ ∀ H' p, Same H H' → H p = none → H' p = some (.lst ((ckb (x, y)).map V.int)) → Q (.ref p) H'
theorem ok_ckb (F : Fun K "check_bytes" "check_bytes" sCkb f fd) : FnOk P w K mg base CX0 1 f fd ["pair"] (spCkb K) := by
  refine F.ok scCkb (fun vs H Q E h => by obtain ⟨t, x, y, rfl, _⟩ := h; rfl) (fun cdv A outer s H vs Q E hr h => ?_)
  obtain ⟨t, x, y, rfl, hT, q⟩ := h
  have nd := scCkb.nd
  refine ⟨_, (pss_cons (ps_asg (pv 0) (pg_tup (by rfl) (pgs_cons (pg_name (i := 1) nd rfl (Or.inl rfl)) (pgs_cons (pg_name (i := 2) nd rfl (Or.inl rfl)) pgs_nil)))) (pss_one ((ps_ret (pe_lst (pa_cons (pe_op op_mod (pv 1) (pe_int)) (pa_cons (pe_op op_fdiv (pv 1) (pe_int)) (pa_cons (pe_op op_mod (pv 2) (pe_int)) (pa_cons (pe_op op_fdiv (pv 2) (pe_int)) pa_nil))))))))), ?_⟩
  refine ⟨_, rfl, t, _, rfl, hT, rfl, _, _, rfl, _, _, rfl, rfl, ?_⟩
  refine ⟨_, rfl, _, _, rfl, rfl, (by show (0 : Int) < 256; decide), _, rfl, _, _, rfl, rfl, ⟨by decide, by decide⟩, _, rfl, _, _, rfl, rfl, (by show (0 : Int) < 256; decide), _, rfl, _, _, rfl, rfl, ⟨by decide, by decide⟩, sz (by show 4 ≤ 1000000; decide), fun p hp => ?_⟩
  exact q _ p (same_new hp _) hp upd_same
/-! ## make_sector -/
def spMk (K : PySem.W.Frag) : Sp := fun vs H Q _ => ∃ (kd : Nat) (a : Addr) (pl : List Int), vs = [.int kd, .ref a] ∧ H a = some (.lst (pl.map V.int)) ∧ pl.length ≤ 58 ∧ ∀ H' p, Same H H' → H p = none → H' p = some (.tup ((secOf kd pl).map V.int)) → Q (.ref p) H'
theorem ok_mk {tC : Addr} (F : Fun K "make_sector" "make_sector" sMkSec f fd) (T : Txt K mg C) (hC : ∀ H, SqT K H tC [.int 1, .int 1]) (cK : C8.Cal P w K mg base 1 "checksum" (spCk K) [.ref tC]) (cB : C8.Cal P w K mg base 1 "check_bytes" (spCkb K) []) :
    FnOk P w K mg base CX0 2 f fd ["kind", "payload"] (spMk K) := by
  refine F.ok scMkSec (fun vs H Q E h => by obtain ⟨kd, a, pl, rfl, _⟩ := h; rfl) (fun cdv A outer s H vs Q E hr h => ?_)
  obtain ⟨kd, a, pl, rfl, ha, hl, q⟩ := h
  have nd := scMkSec.nd
  refine ⟨_, (pss_cons ((ps_set (i := 2) nd rfl (Or.inl rfl) ((pe_op op_cat ((pe_op op_cat (pe_lst (pa_cons (pv 0) (pa_cons (pe_callB call_len_seq (by rfl) T.b_len PySem.boot_len (pa_cons (pv 1) pa_nil)) pa_nil))) (pv 1))) (pe_op op_rep (pe_lst (pa_cons pe_int pa_nil)) (pe_op op_sub ((C8.pe_gc (by rfl) T.c_PAYLOAD)) ((pe_callB call_len_seq (by rfl) T.b_len PySem.boot_len (pa_cons (pv 1) pa_nil))))))))) (pss_one ((ps_ret ((pe_callTy call_tuple_of (by rfl) T.b_tuple (by decide +kernel) (pa_cons ((pe_op op_cat ((C8.pe_c cB hr (by omega) (by rfl) (pa_cons ((C8.pe_c cK hr (by omega) (by rfl) (pa_cons (pv 2) pa_nil))) pa_nil))) (pv 2))) pa_nil))))))), ?_⟩
  have hml : (pl.map V.int).length = pl.length := List.length_map _
  refine ⟨_, rfl, _, rfl, a, _, rfl, .inl (SqL.of ha), sz (by show 2 ≤ 1000000; decide), fun p1 n1 => ?_⟩
  have s1 := same_new n1 (.lst [.int kd, .int ((pl.map V.int).length : Int)])
  refine ⟨_, rfl, p1, a, _, _, rfl, rfl, upd_same, s1 _ _ ha, sz (by rw [hml]; show 2 + pl.length ≤ 1000000; omega), fun p2 n2 => ?_⟩
  have s2 := same_new n2 (.lst ([V.int kd, .int ((pl.map V.int).length : Int)] ++ pl.map V.int))
  have a2 := s2 _ _ (s1 _ _ ha)
  refine ⟨sz (by show 1 ≤ 1000000; decide), fun p3 n3 => ?_⟩
  have s3 := same_new n3 (.lst [.int 0])
  have ek : ((58 : Int) - ((pl.map V.int).length : Int)).toNat = 58 - pl.length := by rw [hml]; omega
  refine ⟨_, rfl, a, _, rfl, .inl (SqL.of (s3 _ _ a2)), _, _, rfl, rfl, p3, _, _, rfl, rfl, upd_same, by rw [hml]; omega, by rw [hml]; omega, sz (by rw [ek]; show 1 * _ ≤ _; omega), fun p4 n4 => ?_⟩
  rw [ek, rep1]
  have s4 := same_new n4 (.lst (List.replicate (58 - pl.length) (V.int 0)))
  refine ⟨p2, p4, _, _, rfl, rfl, s4 _ _ (s3 _ _ upd_same), upd_same, sz (by simp; omega), fun p5 n5 => ?_⟩
  have s5 := same_new n5 (.lst ([V.int kd, .int ((pl.map V.int).length : Int)] ++ pl.map V.int ++ List.replicate (58 - pl.length) (V.int 0)))
  have eb : ([V.int kd, .int ((pl.map V.int).length : Int)] ++ pl.map V.int ++ List.replicate (58 - pl.length) (V.int 0)) = (bodyOf kd pl).map V.int := by
    rw [hml]
    simp [bodyOf]
  rw [eb] at s5
  rw [eb]
  have S5 : Same H _ := s1.trans (s2.trans (s3.trans (s4.trans s5)))
  refine ⟨_, rfl, p5, tC, bodyOf kd pl, rfl, SqL.of upd_same, hC _, fun H6 u s6 nu hu => ?_⟩
  refine ⟨u, _, _, rfl, SqT.of hu, fun H7 p7 s7 n7 h7 => ?_⟩
  have h5 : H7 p5 = some (.lst ((bodyOf kd pl).map V.int)) := s7 _ _ (s6 _ _ upd_same)
  refine ⟨_, rfl, p7, p5, _, _, rfl, rfl, h7, h5, sz (by rw [List.length_map, List.length_map, bodyOf_len hl]; show 4 + 60 ≤ 1000000; decide), fun p8 n8 => ?_⟩
  refine ⟨p8, _, rfl, .inl ⟨SqL.of upd_same, fun p9 n9 => ?_⟩⟩
  have S7 : Same H H7 := S5.trans (s6.trans s7)
  refine q _ p9 (S7.trans ((same_new n8 _).trans (same_new n9 _))) (S7.free ((same_new n8 (.lst ((ckb (ck (bodyOf kd pl))).map V.int ++ (bodyOf kd pl).map V.int))).free n9)) ?_
  rw [upd_same, vmap]
  rfl
/-! ## read_sector -/
def spRdSec (K : PySem.W.Frag) : Sp := fun vs H Q _ => ∃ a : Addr, vs = [.ref a] ∧ ((SqT K H a ((List.replicate 64 (0 : Int)).map V.int) ∧ ∀ H', Same H H' → Q .non H') ∨
  ∃ (kd : Nat) (pl : List Int), SqT K H a ((secOf kd pl).map V.int) ∧ 1 ≤ kd ∧ kd ≤ 9 ∧ pl.length ≤ 58 ∧ ∀ H' t r, Same H H' → H t = none → H r = none → H' t = some (.tup [.int kd, .ref r]) → H' r = some (.lst (pl.map V.int)) → Q (.ref t) H')
theorem ok_rdSec {tC : Addr} (F : Fun K "read_sector" "read_sector" sRdSec f fd) (T : Txt K mg C) (hC : ∀ H, SqT K H tC [.int 1, .int 1]) (cK : C8.Cal P w K mg base 1 "checksum" (spCk K) [.ref tC]) (cB : C8.Cal P w K mg base 1 "check_bytes" (spCkb K) []) :
    FnOk P w K mg base CX0 2 f fd ["sector"] (spRdSec K) := by
  refine F.ok scRdSec (fun vs H Q E h => by obtain ⟨a, rfl, _⟩ := h; rfl) (fun cdv A outer s H vs Q E hr h => ?_)
  obtain ⟨a, rfl, h⟩ := h
  obtain ⟨bl, hbl, hbT⟩ := T.blank
  have nd := scRdSec.nd
  have hu := hr.units
  refine ⟨_, (pss_cons ((ps_if (pt_cmpR (op_eqD hu) (pv 0) (C8.pe_gc (by rfl) hbl) (nomark _)) (pss_one ((ps_ret (pe_non)))) pss_nil)) (pss_cons ((ps_set (i := 1) nd rfl (Or.inl rfl) ((pe_callTy call_list_of (by rfl) T.b_list (by decide +kernel) (pa_cons (pe_slice sl_tup (pv 0) (po_some pe_int) po_none) pa_nil))))) (pss_cons ((ps_if (pt_cmpR (op_neD hu) (pe_callTy call_list_of (by rfl) T.b_list (by decide +kernel) (pa_cons (pe_slice sl_tup (pv 0) po_none (po_some pe_int)) pa_nil)) (C8.pe_c cB hr (by omega) (by rfl) (pa_cons ((C8.pe_c cK hr (by omega) (by rfl) (pa_cons (pv 1) pa_nil))) pa_nil)) (nomark _)) (pss_one (ps_never)) pss_nil)) (pss_cons ((ps_set (i := 2) nd rfl (Or.inl rfl) ((pe_ix ix_list (pv 1) (pe_int) (fun _ _ => rfl))))) (pss_cons ((ps_set (i := 3) nd rfl (Or.inl rfl) ((pe_ix ix_list (pv 1) (pe_int) (fun _ _ => rfl))))) (pss_cons ((ps_if (PW.pt (pw_or (pt_cmpR op_lt (pv 2) pe_int (nomark _)) (pw_or (pt_cmpR op_gt (pv 2) (C8.pe_gc (by rfl) T.c_KINDS) (nomark _)) (pw_or1 (pt_cmpR op_gt (pv 3) (C8.pe_gc (by rfl) T.c_PAYLOAD) (nomark _)))))) (pss_one (ps_never)) pss_nil)) (pss_cons ((ps_if (pt_cmpR (op_neD hu) (pe_slice sl_list (pv 1) (po_some (pe_op op_add (pe_int) (pv 3))) po_none) (pe_op op_rep (pe_lst (pa_cons pe_int pa_nil)) (pe_op op_sub ((C8.pe_gc (by rfl) T.c_PAYLOAD)) (pv 3))) (nomark _)) (pss_one (ps_never)) pss_nil)) (pss_one ((ps_ret ((pe_tup (pa_cons (pv 2) (pa_cons (pe_slice sl_list (pv 1) (po_some pe_int) (po_some (pe_op op_add (pe_int) (pv 3)))) pa_nil)))))))))))))), ?_⟩
  rcases h with ⟨hS, q⟩ | ⟨kd, pl, hS, h1, h9, hl, q⟩
  · refine ⟨_, rfl, _, _, dpT hS, dpT (hbT H), shT _, shT _, _, rfl, ?_⟩
    rw [eqvT, decide_eq_true rfl]
    exact iteT (q H (Same.refl H))
  · refine ⟨_, rfl, _, _, dpT hS, dpT (hbT H), shT _, shT _, _, rfl, ?_⟩
    rw [eqvT, decide_eq_false (sec_blank h1)]
    refine iteF ?_
    have sl := secOf_len (kind := kd) hl
    have hms : ((secOf kd pl).map V.int).length = 64 := by rw [List.length_map, sl]
    have cf : cutV ((secOf kd pl).map V.int) (some 4) none = (bodyOf kd pl).map V.int := by
      have := cut_from ((secOf kd pl).map V.int) 4
      rw [show ((4 : Nat) : Int) = 4 from rfl] at this
      rw [this, ← List.map_drop]
      rfl
    have ct : cutV ((secOf kd pl).map V.int) none (some 4) = (ckb (ck (bodyOf kd pl))).map V.int := by
      have := cut_to ((secOf kd pl).map V.int) 4
      rw [show ((4 : Nat) : Int) = 4 from rfl] at this
      rw [this, ← List.map_take]
      rfl
    refine ⟨_, rfl, 4, rfl, a, _, rfl, hS, ?_, fun p1 n1 => ?_⟩
    · intro z
      have z1 := z.1
      rw [hms] at z1
      exact absurd z1 (by decide)
    rw [cf]
    have s1 := same_new n1 (.tup ((bodyOf kd pl).map V.int))
    refine ⟨p1, _, rfl, .inr (SqT.of upd_same), fun p2 n2 => ?_⟩
    have s2 := same_new n2 (.lst ((bodyOf kd pl).map V.int))
    have S2 := s1.trans s2
    refine ⟨_, rfl, 4, rfl, a, _, rfl, S2.t hS, ?_, fun p3 n3 => ?_⟩
    · intro z
      have z1 := z.2
      rw [hms] at z1
      exact absurd z1 (by decide)
    rw [ct]
    have s3 := same_new n3 (.tup ((ckb (ck (bodyOf kd pl))).map V.int))
    refine ⟨p3, _, rfl, .inr (SqT.of upd_same), fun p4 n4 => ?_⟩
    have s4 := same_new n4 (.lst ((ckb (ck (bodyOf kd pl))).map V.int))
    have S4 := S2.trans (s3.trans s4)
    have h2 := s4 _ _ (s3 _ _ upd_same)
    refine ⟨_, rfl, p2, tC, bodyOf kd pl, rfl, SqL.of h2, hC _, fun H6 u s6 nu hu6 => ?_⟩
    refine ⟨u, _, _, rfl, SqT.of hu6, fun H7 p7 s7 n7 h7 => ?_⟩
    refine ⟨_, _, dpL (SqL.of (s7 _ _ (s6 _ _ upd_same))), dpL (SqL.of h7), shL _, shL _, _, rfl, ?_⟩
    rw [eqvL, decide_eq_true rfl]
    refine iteF ?_
    have S7 := S4.trans (s6.trans s7)
    have h27 := s7 _ _ (s6 _ _ h2)
    have g0 : atI ((bodyOf kd pl).map V.int) 0 = some (.int kd) := at_ints (i := 0) rfl
    have g1 : atI ((bodyOf kd pl).map V.int) 1 = some (.int pl.length) := at_ints (i := 1) rfl
    refine ⟨_, rfl, p2, _, _, _, rfl, rfl, SqL.of h27, g0, ?_⟩
    refine ⟨_, rfl, p2, _, _, _, rfl, rfl, SqL.of h27, g1, ?_⟩
    refine ⟨_, rfl, _, _, rfl, rfl, _, rfl, ?_⟩
    rw [decide_eq_false (show ¬ (kd : Int) < 1 by omega)]
    refine iteF ?_
    refine ⟨_, rfl, _, _, rfl, rfl, _, rfl, ?_⟩
    rw [decide_eq_false (show ¬ (9 : Int) < (kd : Int) by omega)]
    refine iteF ?_
    refine ⟨_, rfl, _, _, rfl, rfl, _, rfl, ?_⟩
    rw [decide_eq_false (show ¬ (58 : Int) < (pl.length : Int) by omega)]
    refine iteF ?_
    have cg : cutV ((bodyOf kd pl).map V.int) (some (2 + (pl.length : Int))) none = (List.replicate (58 - pl.length) (0 : Int)).map V.int := by
      have := cut_from ((bodyOf kd pl).map V.int) (2 + pl.length)
      rw [show ((2 + pl.length : Nat) : Int) = 2 + (pl.length : Int) by omega] at this
      rw [this, ← List.map_drop]
      congr 1
      unfold bodyOf
      rw [List.drop_left' (by simp; omega)]
    have cm : cutV ((bodyOf kd pl).map V.int) (some 2) (some (2 + (pl.length : Int))) = pl.map V.int := by
      have := cut_mid ((bodyOf kd pl).map V.int) 2 (2 + pl.length)
      rw [show ((2 + pl.length : Nat) : Int) = 2 + (pl.length : Int) by omega, show ((2 : Nat) : Int) = 2 from rfl] at this
      rw [this, ← List.map_drop, ← List.map_take]
      congr 1
      rw [show 2 + pl.length - 2 = pl.length by omega]
      unfold bodyOf
      rw [List.append_assoc]
      show (pl ++ List.replicate (58 - pl.length) 0).take pl.length = pl
      rw [List.take_left]
    refine ⟨_, rfl, _, rfl, _, _, rfl, rfl, 2 + (pl.length : Int), rfl, p2, _, rfl, SqL.of h27, fun p8 n8 => ?_⟩
    rw [cg]
    have s8 := same_new n8 (.lst ((List.replicate (58 - pl.length) (0 : Int)).map V.int))
    refine ⟨sz (by show 1 ≤ 1000000; decide), fun p9 n9 => ?_⟩
    have s9 := same_new n9 (.lst [.int 0])
    have ek : ((58 : Int) - (pl.length : Int)).toNat = 58 - pl.length := by omega
    refine ⟨_, rfl, _, _, rfl, rfl, p9, _, _, rfl, rfl, upd_same, by omega, by omega, sz (by rw [ek]; show 1 * _ ≤ _; omega), fun p10 n10 => ?_⟩
    rw [ek, rep1]
    have s10 := same_new n10 (.lst (List.replicate (58 - pl.length) (V.int 0)))
    have er : List.replicate (58 - pl.length) (V.int 0) = (List.replicate (58 - pl.length) (0 : Int)).map V.int := by rw [List.map_replicate]
    refine ⟨_, _, dpL (SqL.of (s10 _ _ (s9 _ _ upd_same))), dpL (SqL.of (by rw [upd_same, er])), shL _, shL _, _, rfl, ?_⟩
    rw [eqvL, decide_eq_true rfl]
    refine iteF ?_
    have S10 := S7.trans (s8.trans (s9.trans s10))
    have h210 := s10 _ _ (s9 _ _ (s8 _ _ h27))
    refine ⟨_, rfl, _, rfl, 2, rfl, _, rfl, _, _, rfl, rfl, 2 + (pl.length : Int), rfl, p2, _, rfl, SqL.of h210, fun p11 n11 => ?_⟩
    rw [cm]
    have s11 := same_new n11 (.lst (pl.map V.int))
    refine ⟨sz (by show 2 ≤ 1000000; decide), fun p12 n12 => ?_⟩
    have s12 := same_new n12 (.tup [.int kd, .ref p11])
    exact q _ p12 p11 (S10.trans (s11.trans s12)) (S10.free (s11.free n12)) (S10.free n11) upd_same (s12 _ _ upd_same)
end
end Mj
set_option Elab.async false
set_option linter.all false
set_option maxRecDepth 100000
set_option maxHeartbeats 4000000
namespace Mj
open PySem L2
/-- a disk as a list at a -/
def DiskAt (K : PySem.W.Frag) (H : Hp) (a : Addr) (D : Disk) : Prop := ∃ vs, H a = some (.lst vs) ∧ DpAll K H vs (D.map secD)
theorem DiskAt.same {K : PySem.W.Frag} {H H' : Hp} {a : Addr} {D : Disk} (h : DiskAt K H a D) (s : Same H H') : DiskAt K H' a D := let ⟨vs, h1, h2⟩ := h; ⟨vs, s _ _ h1, DpAll.same s h2⟩
theorem secD_imm (s : Sec) : imm (secD s) = true := immAll_ints _
theorem disk_imm (D : Disk) : immAll (D.map secD) = true := immAll_iff.mpr fun d hd => by
  obtain ⟨s, _, rfl⟩ := List.mem_map.mp hd
  exact secD_imm s
theorem head_t {K : PySem.W.Frag} {H : Hp} {v : V} {g s b : Nat} (h : Dp K H v (headD g s b)) : ∃ t, v = .ref t ∧ SqT K H t [.int g, .int s, .int b] := dp_tup_ints (ns := [(g : Int), (s : Int), (b : Int)]) h
theorem head_pack {g s b : Nat} (h1 : g < 16384) (h2 : s < 2 ^ 40) (h3 : b < 16384) : packD 2 (headD g s b) = packD 1 (headD g s b) ∧ OkD 2 (headD g s b) := ⟨(OkD.up 1 (headD_ok h1 h2 h3)).2, (OkD.up 1 (headD_ok h1 h2 h3)).1⟩
section
variable {P : Program} {w : World} {K : PySem.W.Frag} {mg : Str → Option Value} {base : Heap} {C : Addr} {f : Addr} {fd : FuncData}
/-! ## sector_at -/
def spSecAt (K : PySem.W.Frag) : Sp := fun vs H Q _ => ∃ (a : Addr) (D : Disk) (i : Nat), vs = [.ref a, .int i] ∧ DiskAt K H a D ∧ ∀ x, SqT K H x ((sat D i).enc.map V.int) → Q (.ref x) H
theorem ok_secAt (F : Fun K "sector_at" "sector_at" sSecAt f fd) (T : Txt K mg C) : FnOk P w K mg base CX0 1 f fd ["sectors", "index"] (spSecAt K) := by
  refine F.ok scSecAt (fun vs H Q E h => by obtain ⟨a, D, i, rfl, _⟩ := h; rfl) (fun cdv A outer s H vs Q E hr h => ?_)
  obtain ⟨a, D, i, rfl, ⟨vs, hv, hA⟩, q⟩ := h
  obtain ⟨bl, hbl, hbT⟩ := T.blank
  refine ⟨_, (pss_cons ((ps_if ((pt_cmpR op_lt (pv 1) (pe_callB call_len_seq (by rfl) T.b_len PySem.boot_len (pa_cons (pv 0) pa_nil)) (nomark _))) (pss_one ((ps_ret ((pe_ix ix_list (pv 0) (pv 1) (fun _ _ => rfl)))))) pss_nil)) (pss_one ((ps_ret (C8.pe_gc (by rfl) hbl))))), ?_⟩
  have hl := hA.length
  rw [List.length_map] at hl
  refine ⟨_, rfl, _, rfl, a, _, rfl, .inl (SqL.of hv), _, _, rfl, rfl, _, rfl, ?_⟩
  refine ite2 (fun c => ?_) (fun c => ?_)
  · have c' := of_decide_eq_true c
    have hi : i < D.length := by omega
    have e : (D.map secD)[i]? = some (secD D[i]) := by rw [List.getElem?_map, List.getElem?_eq_getElem hi]; rfl
    obtain ⟨v, h1, h2⟩ := hA.get e
    obtain ⟨x, rfl, hx⟩ := dp_tup_ints h2
    refine ⟨_, rfl, _, rfl, a, _, _, _, rfl, rfl, SqL.of hv, atI_nat h1, q x ?_⟩
    have es : sat D i = D[i] := by
      unfold sat
      rw [List.getD_eq_getElem?_getD, List.getElem?_eq_getElem hi]
      rfl
    rw [es]
    exact hx
  · have c' := of_decide_eq_false (Bool.eq_false_iff.mpr c)
    refine q bl ?_
    rw [sat_none (by omega)]
    exact hbT H
/-! ## read_head, newest_head -/
def rhP (K : PySem.W.Frag) (H : Hp) (Q : VK) : Sec → Prop
  | .blank => ∀ H', Same H H' → Q .non H'
  | .head g s b => ∀ H' t, Same H H' → SqT K H' t [.int g, .int s, .int b] → Q (.ref t) H'
  | .part _ _ _ _ _ _ => False
def spRdHead (K : PySem.W.Frag) : Sp := fun vs H Q _ => ∃ (a : Addr) (D : Disk) (i : Nat), vs = [.ref a, .int i] ∧ DiskAt K H a D ∧ (sat D i).Ok ∧ rhP K H Q (sat D i)
theorem ok_rdHead (F : Fun K "read_head" "read_head" sRdHead f fd) (T : Txt K mg C) (cA : C8.Cal P w K mg base 1 "sector_at" (spSecAt K) []) (cS : C8.Cal P w K mg base 2 "read_sector" (spRdSec K) []) (cU : C8.Cal P w K mg base 9 "unpack" (spUnpack K) []) :
    FnOk P w K mg base CX0 10 f fd ["sectors", "index"] (spRdHead K) := by
  refine F.ok scRdHead (fun vs H Q E h => by obtain ⟨a, D, i, rfl, _⟩ := h; rfl) (fun cdv A outer s H vs Q E hr h => ?_)
  obtain ⟨a, D, i, rfl, hD, ok, q⟩ := h
  have nd := scRdHead.nd
  refine ⟨_, (pss_cons ((ps_set (i := 2) nd rfl (Or.inl rfl) ((C8.pe_c cS hr (by omega) (by rfl) (pa_cons ((C8.pe_c cA hr (by omega) (by rfl) (pa_cons (pv 0) (pa_cons (pv 1) pa_nil)))) pa_nil))))) (pss_cons ((ps_if (pt_cmpR op_isN (pv 2) pe_non (nomark _)) (pss_one ((ps_ret (pe_non)))) pss_nil)) (pss_cons (ps_asg (pv 2) (pg_tup (by rfl) (pgs_cons (pg_name (i := 3) nd rfl (Or.inl rfl)) (pgs_cons (pg_name (i := 4) nd rfl (Or.inl rfl)) pgs_nil)))) (pss_cons ((ps_if ((pt_cmpR op_ne (pv 3) (C8.pe_gc (by rfl) T.c_HEAD) (nomark _))) (pss_one (ps_never)) pss_nil)) (pss_one ((ps_ret ((C8.pe_c cU hr (by omega) (by rfl) (pa_cons (pv 4) pa_nil)))))))))), ?_⟩
  refine ⟨_, rfl, _, rfl, a, D, i, rfl, hD, fun x hx => ?_⟩
  cases e : sat D i with
  | blank =>
    rw [e] at hx q
    refine ⟨x, rfl, .inl ⟨hx, fun H1 s1 => ?_⟩⟩
    exact ⟨_, rfl, rfl, _, rfl, iteT (q H1 s1)⟩
  | head g s0 b =>
    rw [e] at hx q ok
    obtain ⟨o1, o2, o3⟩ := ok
    refine ⟨x, rfl, .inr ⟨1, _, hx, by decide, by decide, headD_len o1 o2 o3, fun H1 t r s1 nt nr ht hr1 => ?_⟩⟩
    refine ⟨_, rfl, rfl, _, rfl, iteF ?_⟩
    refine ⟨_, rfl, t, _, rfl, SqT.of ht, rfl, _, _, rfl, _, _, rfl, rfl, ?_⟩
    refine ⟨_, rfl, rfl, _, rfl, iteF ?_⟩
    obtain ⟨p1, p2⟩ := head_pack o1 o2 o3
    refine ⟨_, rfl, r, headD g s0 b, rfl, SqL.of (by rw [hr1, p1]), p2, fun H2 v s2 hv => ?_⟩
    obtain ⟨t2, rfl, ht2⟩ := head_t hv
    exact q H2 t2 (s1.trans s2) ht2
  | part _ _ _ _ _ _ =>
    rw [e] at q
    exact q.elim
def spNH (K : PySem.W.Frag) : Sp := fun vs H Q _ => ∃ (a : Addr) (D : Disk), vs = [.ref a] ∧ DiskAt K H a D ∧ (∀ x ∈ D, x.Ok) ∧ IsHd (sat D 0) ∧ IsHd (sat D 1) ∧ ∀ H' t, Same H H' → SqT K H' t [.int (nh D).1, .int (nh D).2.1, .int (nh D).2.2] → Q (.ref t) H'
def nhI (D : Disk) : Nat → Nat × Nat × Nat
  | 0 => (0, 2, 0)
  | i + 1 => nhStep (nhI D i) (sat D i)
theorem ok_nh (F : Fun K "newest_head" "newest_head" sNewHead f fd) (T : Txt K mg C) (cR : C8.Cal P w K mg base 10 "read_head" (spRdHead K) []) : FnOk P w K mg base CX0 11 f fd ["sectors"] (spNH K) := by
  refine F.ok scNewHead (fun vs H Q E h => by obtain ⟨a, D, rfl, _⟩ := h; rfl) (fun cdv A outer s H vs Q E hr h => ?_)
  obtain ⟨a, D, rfl, hD, ok, i0, i1, q⟩ := h
  have nd := scNewHead.nd
  refine ⟨_, (pss_cons ((ps_set (i := 1) nd rfl (Or.inl rfl) ((pe_tup (pa_cons (pe_int) (pa_cons ((C8.pe_gc (by rfl) T.c_FIRST)) (pa_cons (pe_int) pa_nil))))))) (pss_cons ((ps_for PassesOwn.never rfl ((pi_range1 (by rfl) T.b_range (pa_cons ((C8.pe_gc (by rfl) T.c_FIRST)) pa_nil))) ((pg_name (i := 2) nd rfl (Or.inl rfl))) (pss_cons ((ps_set (i := 3) nd rfl (Or.inl rfl) ((C8.pe_c cR hr (by omega) (by rfl) (pa_cons (pv 0) (pa_cons (pv 2) pa_nil)))))) (pss_one ((ps_if (PW.pt (pw_and (pt_cmpR op_notN (pv 3) pe_non (nomark _)) (pw_and1 (pt_cmpR op_gt (pe_ix ix_tup (pv 3) (pe_int) (fun _ _ => rfl)) (pe_ix ix_tup (pv 1) (pe_int) (fun _ _ => rfl)) (nomark _))))) (pss_one ((ps_set (i := 1) nd rfl (Or.inl rfl) (pv 3)))) pss_nil)))))) (pss_one ((ps_ret (pv 1)))))), ?_⟩
  refine ⟨sz (by show 3 ≤ 1000000; decide), fun t0 n0 => ?_⟩
  refine ⟨2, rfl, by decide, by decide, for_range (lo := 0) (n := 2) (fun i σ H' => ∃ (t : Addr) (u2 u3 : Option V), σ = [some (.ref a), some (.ref t), u2, u3] ∧ Same H H' ∧ SqT K H' t [.int (nhI D i).1, .int (nhI D i).2.1, .int (nhI D i).2.2])
    ⟨t0, none, none, rfl, same_new n0 _, SqT.of upd_same⟩ ?_ ?_⟩
  · rintro i σ H' hi ⟨t, u2, u3, rfl, s1, ht⟩
    have hh : IsHd (sat D i) := by
      have : i = 0 ∨ i = 1 := by omega
      rcases this with e | e <;> rw [e] <;> assumption
    have e0 : (0 : Int) + (i : Int) = (i : Int) := by omega
    refine ⟨_, rfl, _, rfl, a, D, i, ?_, hD.same s1, sat_ok ok i, ?_⟩
    · show [V.ref a, V.int ((0 : Int) + (i : Int))] = [V.ref a, V.int (i : Int)]
      rw [e0]
    cases e : sat D i with
    | blank =>
      intro H2 s2
      refine ⟨_, rfl, rfl, _, rfl, iteF ?_⟩
      refine ⟨t, some (.int ((0 : Int) + (i : Int))), some .non, rfl, s1.trans s2, ?_⟩
      rw [nhI, e]
      exact s2.t ht
    | head g s0 b =>
      intro H2 t2 s2 ht2
      refine ⟨_, rfl, rfl, _, rfl, iteT ?_⟩
      refine ⟨_, rfl, t2, _, _, _, rfl, rfl, ht2, atI_nat (j := 0) rfl, _, rfl, t, _, _, _, rfl, rfl, s2.t ht, atI_nat (j := 0) rfl, _, _, rfl, rfl, _, rfl, ?_⟩
      refine ite2 (fun c => ?_) (fun c => ?_)
      · have c' := of_decide_eq_true c
        refine ⟨_, rfl, t2, some (.int ((0 : Int) + (i : Int))), some (.ref t2), rfl, s1.trans s2, ?_⟩
        rw [nhI, e]
        unfold nhStep
        dsimp only
        rw [if_pos (show (nhI D i).1 < g by omega)]
        exact ht2
      · have c' := of_decide_eq_false (Bool.eq_false_iff.mpr c)
        refine ⟨t, some (.int ((0 : Int) + (i : Int))), some (.ref t2), rfl, s1.trans s2, ?_⟩
        rw [nhI, e]
        unfold nhStep
        dsimp only
        rw [if_neg (show ¬ (nhI D i).1 < g by omega)]
        exact s2.t ht
    | part _ _ _ _ _ _ =>
      rw [e] at hh
      exact hh.elim
  · rintro σ H' ⟨t, u2, u3, rfl, s1, ht⟩
    exact ⟨_, rfl, q H' t s1 ht⟩
/-! ## read_part -/
def rpP (H : Hp) (Q : VK) : Sec → Prop
  | .part g b ix p m bs => ∀ H' t r1 r2, Same H H' → H' t = some (.tup [.ref r1, .ref r2]) → H' r1 = some (.lst (([g, b, ix, p, m] : List Nat).map fun n : Nat => V.int (n : Int))) → H' r2 = some (.lst (bs.map V.int)) → Q (.ref t) H'
  | _ => ∀ H', Same H H' → Q .non H'
def spRdPart (K : PySem.W.Frag) : Sp := fun vs H Q _ => ∃ (a : Addr) (D : Disk) (i : Nat), vs = [.ref a, .int i] ∧ DiskAt K H a D ∧ (sat D i).Ok ∧ rpP H Q (sat D i)
theorem nums5_flat (g b ix p m : Nat) : nums5 g b ix p m = ((([g, b, ix, p, m] : List Nat).map putN).flatten) := by simp [nums5]
theorem ok_rdPart (F : Fun K "read_part" "read_part" sRdPart f fd) (T : Txt K mg C) (cA : C8.Cal P w K mg base 1 "sector_at" (spSecAt K) []) (cS : C8.Cal P w K mg base 2 "read_sector" (spRdSec K) []) (cN : C8.Cal P w K mg base 1 "take_number" (spTakeN K) []) :
    FnOk P w K mg base CX0 3 f fd ["sectors", "index"] (spRdPart K) := by
  refine F.ok scRdPart (fun vs H Q E h => by obtain ⟨a, D, i, rfl, _⟩ := h; rfl) (fun cdv A outer s H vs Q E hr h => ?_)
  obtain ⟨a, D, i, rfl, hD, ok, q⟩ := h
  have nd := scRdPart.nd
  refine ⟨_, (pss_cons ((ps_set (i := 2) nd rfl (Or.inl rfl) ((C8.pe_c cS hr (by omega) (by rfl) (pa_cons ((C8.pe_c cA hr (by omega) (by rfl) (pa_cons (pv 0) (pa_cons (pv 1) pa_nil)))) pa_nil))))) (pss_cons ((ps_if (PW.pt (pw_or (pt_cmpR op_isN (pv 2) pe_non (nomark _)) (pw_or1 (pt_cmpR op_ne (pe_ix ix_tup (pv 2) (pe_int) (fun _ _ => rfl)) (C8.pe_gc (by rfl) T.c_PART) (nomark _))))) (pss_one ((ps_ret (pe_non)))) pss_nil)) (pss_cons ((ps_set (i := 3) nd rfl (Or.inl rfl) ((pe_ix ix_tup (pv 2) (pe_int) (fun _ _ => rfl))))) (pss_cons ((ps_set (i := 4) nd rfl (Or.inl rfl) (pe_lst pa_nil))) (pss_cons ((ps_set (i := 5) nd rfl (Or.inl rfl) (pe_int))) (pss_cons ((ps_for PassesOwn.never rfl ((pi_range1 (by rfl) T.b_range (pa_cons (pe_int) pa_nil))) ((pg_name (i := 6) nd rfl (Or.inl rfl))) (pss_cons (ps_asg (C8.pe_c cN hr (by omega) (by rfl) (pa_cons (pv 3) (pa_cons (pv 5) pa_nil))) (pg_tup (by rfl) (pgs_cons (pg_name (i := 7) nd rfl (Or.inl rfl)) (pgs_cons (pg_name (i := 5) nd rfl (Or.inl rfl)) pgs_nil)))) (pss_one ((ps_expr ((pe_bm PySem.F.plainAttrs_list PySem.F.slot_list_append PySem.F.type_list_append mt_append (pv 4) (pa_cons (pv 7) pa_nil))))))))) (pss_one ((ps_ret ((pe_tup (pa_cons (pv 4) (pa_cons (pe_slice sl_list (pv 3) (po_some (pv 5)) po_none) pa_nil))))))))))))), ?_⟩
  refine ⟨_, rfl, _, rfl, a, D, i, rfl, hD, fun x hx => ?_⟩
  cases e : sat D i with
  | blank =>
    rw [e] at hx q
    refine ⟨x, rfl, .inl ⟨hx, fun H1 s1 => ?_⟩⟩
    exact ⟨_, rfl, rfl, _, rfl, iteT (q H1 s1)⟩
  | head g s0 b =>
    rw [e] at hx q ok
    obtain ⟨o1, o2, o3⟩ := ok
    refine ⟨x, rfl, .inr ⟨1, _, hx, by decide, by decide, headD_len o1 o2 o3, fun H1 t r s1 nt nr ht hr1 => ?_⟩⟩
    refine ⟨_, rfl, rfl, _, rfl, iteF ?_⟩
    refine ⟨_, rfl, t, _, _, _, rfl, rfl, SqT.of ht, atI_nat (j := 0) rfl, rfl, _, rfl, iteT ?_⟩
    exact q H1 s1
  | part g b ix p m bs =>
    rw [e] at hx q ok
    obtain ⟨o1, o2, o3, o4, o5, o6⟩ := ok
    have hnl := nums5_len o1 o2 o3 o4 o5
    have hpl : (nums5 g b ix p m ++ bs).length ≤ 58 := by rw [List.length_append]; omega
    refine ⟨x, rfl, .inr ⟨2, _, hx, by decide, by decide, hpl, fun H1 t r s1 nt nr ht hr1 => ?_⟩⟩
    refine ⟨_, rfl, rfl, _, rfl, iteF ?_⟩
    refine ⟨_, rfl, t, _, _, _, rfl, rfl, SqT.of ht, atI_nat (j := 0) rfl, rfl, _, rfl, iteF ?_⟩
    refine ⟨_, rfl, t, _, _, _, rfl, rfl, SqT.of ht, atI_nat (j := 1) rfl, ?_⟩
    refine ⟨sz (Nat.zero_le _), fun l hl => ?_⟩
    have hr2 : ∀ o, (upd H1 l o) r = some (.lst ((nums5 g b ix p m ++ bs).map V.int)) := fun o => by rw [upd_ne (ne_of_none hr1 hl)]; exact hr1
    have hl0 := s1.free hl
    have hLb : ∀ n ∈ ([g, b, ix, p, m] : List Nat), n < 16384 := fun n hn => by
      simp only [List.mem_cons, List.not_mem_nil, or_false] at hn
      rcases hn with rfl | rfl | rfl | rfl | rfl <;> assumption
    have hL5 : ([g, b, ix, p, m] : List Nat).length = 5 := rfl
    have hq : ∀ H' t r1 r2, Same H H' → H' t = some (.tup [.ref r1, .ref r2]) → H' r1 = some (.lst (([g, b, ix, p, m] : List Nat).map fun n : Nat => V.int (n : Int))) → H' r2 = some (.lst (bs.map V.int)) → Q (.ref t) H' := q
    rw [nums5_flat] at hr2 hpl
    generalize ([g, b, ix, p, m] : List Nat) = L at hr2 hLb hL5 hq hpl
    refine ⟨5, rfl, by decide, by decide, for_range (lo := 0) (n := 5) (fun j σ H' => ∃ (at_ : Nat) (u6 u7 : Option V), σ = [some (.ref a), some (.int i), some (.ref t), some (.ref r), some (.ref l), some (.int at_), u6, u7] ∧
        Off l H1 H' ∧ H' l = some (.lst ((L.take j).map fun n : Nat => V.int (n : Int))) ∧ ((L.map putN).flatten ++ bs).drop at_ = ((L.drop j).map putN).flatten ++ bs)
      ⟨0, none, none, rfl, (Off.refl l H1).upd _, upd_same, rfl⟩ ?_ ?_⟩
    · rintro j σ H' hj ⟨at_, u6, u7, rfl, o7, h7, h8⟩
      obtain ⟨n, hn⟩ : ∃ n, L[j]? = some n := ⟨_, List.getElem?_eq_getElem (by omega)⟩
      have hnb := hLb n (List.mem_of_getElem? hn)
      have hjl := (List.getElem?_eq_some_iff.mp hn).1
      have ed : L.drop j = n :: L.drop (j + 1) := by
        rw [List.drop_eq_getElem_cons hjl, (List.getElem?_eq_some_iff.mp hn).2]
      rw [ed, List.map_cons, List.flatten_cons, List.append_assoc] at h8
      have hrH : H' r = some (.lst (((L.map putN).flatten ++ bs).map V.int)) := o7 r _ (ne_of_none hr1 hl) (by have := hr2 (.lst []); rw [upd_ne (ne_of_none hr1 hl)] at this; exact this)
      refine ⟨_, rfl, _, rfl, r, _, at_, n, _, rfl, SqL.of hrH, by omega, by omega, h8, fun H9 t9 s9 nt9 ht9 => ?_⟩
      refine ⟨t9, _, rfl, SqT.of ht9, rfl, _, _, rfl, _, _, rfl, rfl, ?_⟩
      have h79 := s9 _ _ h7
      refine ⟨_, rfl, .inl ⟨rfl, _, SqL.of h79⟩, _, rfl, l, _, _, rfl, rfl, h79, szl (by simp; omega), ?_⟩
      refine ⟨at_ + (putN n).length, some (.int ((0 : Int) + (j : Int))), some (.int n), rfl, (o7.trans (Off.of s9)).upd _, ?_, ?_⟩
      · rw [upd_same, map_take hn]
      · rw [← List.drop_drop, h8, List.drop_left]
    · rintro σ H' ⟨at_, u6, u7, rfl, o7, h7, h8⟩
      have e5 : L.take 5 = L := List.take_of_length_le (by omega)
      have e6 : L.drop 5 = [] := List.drop_eq_nil_of_le (by omega)
      rw [e5] at h7
      rw [e6] at h8
      have hrH : H' r = some (.lst (((L.map putN).flatten ++ bs).map V.int)) := o7 r _ (ne_of_none hr1 hl) (by have := hr2 (.lst []); rw [upd_ne (ne_of_none hr1 hl)] at this; exact this)
      refine ⟨_, rfl, _, rfl, _, rfl, _, rfl, r, _, rfl, SqL.of hrH, fun p2 n2 => ?_⟩
      have s2 := same_new n2 (.lst (cutV (((L.map putN).flatten ++ bs).map V.int) (some (at_ : Int)) none))
      refine ⟨sz (by show 2 ≤ 1000000; decide), fun p3 n3 => ?_⟩
      have s3 := same_new n3 (.tup [.ref l, .ref p2])
      have S : Same H H' := fun b o eb => o7 b o (ne_of_none eb hl0) (s1 b o eb)
      refine hq _ p3 l p2 (S.trans (s2.trans s3)) upd_same (s3 _ _ (s2 _ _ h7)) (s3 _ _ ?_)
      rw [upd_same, cut_from, ← List.map_drop, h8]
      rfl
end
end Mj
set_option Elab.async false
set_option linter.all false
set_option maxRecDepth 100000
set_option maxHeartbeats 4000000
namespace Mj
open PySem L2
abbrev nV (n : Nat) : V := .int (n : Int)
theorem nums_dp {K : PySem.W.Frag} {H : Hp} {a : Addr} (L : List Nat) (h : H a = some (.lst (L.map fun n : Nat => V.int (n : Int)))) : Dp K H (.ref a) (.list ((L.map fun n : Nat => (n : Int)).map PyData.int)) := by
  refine dpL (SqL.of ?_)
  rw [h, List.map_map]
  rfl
section
variable {P : Program} {w : World} {K : PySem.W.Frag} {mg : Str → Option Value} {base : Heap} {C : Addr} {f : Addr} {fd : FuncData}
/-! ## read_record -/
def rrP (H : Hp) (Q : VK) : Option (List Int × Nat × Nat) → Prop
  | none => ∀ H', Same H H' → Q .non H'
  | some x => ∀ H' t r, Same H H' → H' t = some (.tup [.ref r, nV x.2.1, nV x.2.2]) → H' r = some (.lst (x.1.map V.int)) → Q (.ref t) H'
def spRdRec (K : PySem.W.Frag) : Sp := fun vs H Q _ => ∃ (a : Addr) (D : Disk) (pl g ix bt : Nat), vs = [.ref a, nV pl, nV g, nV ix, nV bt] ∧ DiskAt K H a D ∧ (∀ x ∈ D, x.Ok) ∧ rrP H Q (rdRec D pl g ix bt)
theorem ok_rdRec (F : Fun K "read_record" "read_record" sRdRec f fd) (T : Txt K mg C) (cP : C8.Cal P w K mg base 3 "read_part" (spRdPart K) []) : FnOk P w K mg base CX0 4 f fd ["sectors", "place", "generation", "index", "boot"] (spRdRec K) := by
  refine F.ok scRdRec (fun vs H Q E h => by obtain ⟨a, D, pl, g, ix, bt, rfl, _⟩ := h; rfl) (fun cdv A outer s H vs Q E hr h => ?_)
  obtain ⟨a, D, pl, g, ix, bt, rfl, hD, ok, q⟩ := h
  have nd := scRdRec.nd
  have hu : _ + 64 < cLine := hr.units
  refine ⟨_, (pss_cons ((ps_set (i := 5) nd rfl (Or.inl rfl) ((C8.pe_c cP hr (by omega) (by rfl) (pa_cons (pv 0) (pa_cons (pv 1) pa_nil)))))) (pss_cons ((ps_if (pt_cmpR op_isN (pv 5) pe_non (nomark _)) (pss_one ((ps_ret (pe_non)))) pss_nil)) (pss_cons (ps_asg (pv 5) (pg_tup (by rfl) (pgs_cons (pg_name (i := 6) nd rfl (Or.inl rfl)) (pgs_cons (pg_name (i := 7) nd rfl (Or.inl rfl)) pgs_nil)))) (pss_cons ((ps_if (PW.pt (pw_or (pt_cmpR (op_neD hu) (pe_op op_cat (pe_slice sl_list (pv 6) po_none (po_some pe_int)) (pe_slice sl_list (pv 6) (po_some pe_int) (po_some pe_int))) (pe_lst (pa_cons (pv 2) (pa_cons (pv 3) (pa_cons pe_int pa_nil)))) (nomark _)) (pw_or1 (pt_cmpR op_lt (pe_ix ix_list (pv 6) (pe_int) (fun _ _ => rfl)) (pv 4) (nomark _))))) (pss_one ((ps_ret (pe_non)))) pss_nil)) (pss_cons ((ps_for PassesOwn.never rfl ((pi_range2 (by rfl) T.b_range (pa_cons (pe_int) (pa_cons ((pe_ix ix_list (pv 6) (pe_int) (fun _ _ => rfl))) pa_nil)))) ((pg_name (i := 8) nd rfl (Or.inl rfl))) (pss_cons ((ps_set (i := 9) nd rfl (Or.inl rfl) ((C8.pe_c cP hr (by omega) (by rfl) (pa_cons (pv 0) (pa_cons ((pe_op op_add (pv 1) (pv 8))) pa_nil)))))) (pss_cons ((ps_if (PW.pt (pw_or (pt_cmpR op_isN (pv 9) pe_non (nomark _)) (pw_or1 (pt_cmpR (op_neD hu) (pe_ix ix_tup (pv 9) (pe_int) (fun _ _ => rfl)) (pe_lst (pa_cons (pv 2) (pa_cons (pe_ix ix_list (pv 6) (pe_int) (fun _ _ => rfl)) (pa_cons (pv 3) (pa_cons (pv 8) (pa_cons (pe_ix ix_list (pv 6) (pe_int) (fun _ _ => rfl)) pa_nil)))))) (nomark _))))) (pss_one ((ps_ret (pe_non)))) pss_nil)) (pss_one ((ps_set (i := 7) nd rfl (Or.inl rfl) ((pe_op op_cat (pv 7) ((pe_ix ix_tup (pv 9) (pe_int) (fun _ _ => rfl)))))))))))) (pss_one ((ps_ret ((pe_tup (pa_cons (pv 7) (pa_cons ((pe_ix ix_list (pv 6) (pe_int) (fun _ _ => rfl))) (pa_cons ((pe_ix ix_list (pv 6) (pe_int) (fun _ _ => rfl))) pa_nil))))))))))))), ?_⟩
  refine ⟨_, rfl, _, rfl, a, D, pl, rfl, hD, sat_ok ok pl, ?_⟩
  have okp := sat_ok ok pl
  unfold rdRec at q
  cases e : sat D pl with
  | blank =>
    rw [e] at q
    exact fun H1 s1 => ⟨_, rfl, rfl, _, rfl, iteT (q H1 s1)⟩
  | head g0 s0 b0 =>
    rw [e] at q
    exact fun H1 s1 => ⟨_, rfl, rfl, _, rfl, iteT (q H1 s1)⟩
  | part g' b' i' p' m' bs =>
    rw [e] at q okp
    dsimp only at q
    intro H1 t r1 r2 s1 ht h1 h2
    refine ⟨_, rfl, rfl, _, rfl, iteF ?_⟩
    refine ⟨_, rfl, t, _, rfl, SqT.of ht, rfl, _, _, rfl, _, _, rfl, rfl, ?_⟩
    refine ⟨_, rfl, 1, rfl, r1, _, rfl, SqL.of h1, fun p1 n1 => ?_⟩
    have c1 : cutV (([g', b', i', p', m'] : List Nat).map fun n : Nat => V.int (n : Int)) none (some 1) = [nV g'] := cut_to _ 1
    rw [c1]
    have s2 := same_new n1 (.lst [nV g'])
    refine ⟨_, rfl, 2, rfl, 4, rfl, r1, _, rfl, SqL.of (s2 _ _ h1), fun p2 n2 => ?_⟩
    have c2 : cutV (([g', b', i', p', m'] : List Nat).map fun n : Nat => V.int (n : Int)) (some 2) (some 4) = [nV i', nV p'] := cut_mid _ 2 4
    rw [c2]
    have s3 := same_new n2 (.lst [nV i', nV p'])
    refine ⟨p1, p2, _, _, rfl, rfl, s3 _ _ upd_same, upd_same, sz (by show 1 + 2 ≤ 1000000; decide), fun p3 n3 => ?_⟩
    have s4 := same_new n3 (.lst ([nV g'] ++ [nV i', nV p']))
    refine ⟨_, rfl, _, rfl, sz (by show 3 ≤ 1000000; decide), fun p4 n4 => ?_⟩
    have s5 := same_new n4 (.lst [nV g, nV ix, .int 0])
    refine ⟨_, _, dpL (ns := [(g' : Int), (i' : Int), (p' : Int)]) (SqL.of (s5 _ _ upd_same)), dpL (ns := [(g : Int), (ix : Int), 0]) (SqL.of upd_same), shL _, shL _, _, rfl, ?_⟩
    rw [eqvL]
    have S5 := s1.trans (s2.trans (s3.trans (s4.trans s5)))
    have h15 := s5 _ _ (s4 _ _ (s3 _ _ (s2 _ _ h1)))
    have h25 := s5 _ _ (s4 _ _ (s3 _ _ (s2 _ _ h2)))
    have D5 := hD.same S5
    generalize (upd (upd (upd (upd H1 p1 (HO.lst [nV g'])) p2 (HO.lst [nV i', nV p'])) p3 (HO.lst ([nV g'] ++ [nV i', nV p']))) p4 (HO.lst [nV g, nV ix, V.int 0])) = H5 at S5 h15 h25 D5
    by_cases c : g' = g ∧ i' = ix ∧ p' = 0
    · obtain ⟨rfl, rfl, rfl⟩ := c
      rw [decide_eq_true (show ([(g' : Int), (i' : Int), ((0 : Nat) : Int)] : List Int) = [(g' : Int), (i' : Int), 0] from rfl)]
      refine iteF ?_
      refine ⟨_, rfl, r1, _, _, _, rfl, rfl, SqL.of h15, atI_nat (j := 1) rfl, _, rfl, _, _, rfl, rfl, _, rfl, ?_⟩
      by_cases cb : bt ≤ b'
      · rw [if_pos ⟨rfl, rfl, rfl, cb⟩] at q
        rw [decide_eq_false (show ¬ (b' : Int) < (bt : Int) by omega)]
        refine iteF ?_
        have hq : ∀ R, rdParts D pl g' b' i' m' (m' - 1) 1 bs = R → rrP H Q (R.map fun row => (row, b', m')) := fun R hR => by rw [← hR]; exact q
        clear q
        have em : ((m' : Int) - 1).toNat = m' - 1 := by omega
        refine ⟨_, rfl, r1, _, _, _, rfl, rfl, SqL.of h15, atI_nat (j := 4) rfl, 1, m', rfl, ⟨by decide, by decide, by omega, by have := okp.2.2.2.2.1; omega⟩, ?_⟩
        rw [em]
        refine for_range (lo := 1) (n := m' - 1) (fun k σ H' => ∃ (row : List Int) (r : Addr) (u8 u9 : Option V), σ = [some (.ref a), some (nV pl), some (nV g'), some (nV i'), some (nV bt), some (.ref t), some (.ref r1), some (.ref r), u8, u9] ∧ Same H5 H' ∧
            H' r = some (.lst (row.map V.int)) ∧ row.length ≤ 40 * (k + 1) ∧ rdParts D pl g' b' i' m' (m' - 1 - k) (1 + k) row = rdParts D pl g' b' i' m' (m' - 1) 1 bs)
          ⟨bs, r2, none, none, rfl, Same.refl H5, h25, by have := okp.2.2.2.2.2; omega, rfl⟩ ?_ ?_
        · rintro k σ H6 hk ⟨row, r, u8, u9, rfl, s6, h6, l6, e6⟩
          have ea : (pl : Int) + (1 + (k : Int)) = ((pl + (1 + k) : Nat) : Int) := by omega
          have ek : m' - 1 - k = (m' - 1 - (k + 1)) + 1 := by omega
          rw [ek, rdParts] at e6
          refine ⟨_, rfl, _, rfl, _, rfl, _, _, rfl, rfl, a, D, pl + (1 + k), ?_, D5.same s6, sat_ok ok _, ?_⟩
          · show [V.ref a, V.int ((pl : Int) + (1 + (k : Int)))] = [V.ref a, V.int ((pl + (1 + k) : Nat) : Int)]
            rw [ea]
          have okq := sat_ok ok (pl + (1 + k))
          have fin0 : rdParts D pl g' b' i' m' (m' - 1) 1 bs = none → ∀ H', Same H6 H' → Q .non H' := fun z H' s' => hq none z H' (S5.trans (s6.trans s'))
          cases e7 : sat D (pl + (1 + k)) with
          | blank =>
            rw [e7] at e6
            exact fun H7 s7 => ⟨_, rfl, rfl, _, rfl, iteT (fin0 e6.symm H7 s7)⟩
          | head g0 s0 b0 =>
            rw [e7] at e6
            exact fun H7 s7 => ⟨_, rfl, rfl, _, rfl, iteT (fin0 e6.symm H7 s7)⟩
          | part g2 b2 i2 p2' m2 bs2 =>
            rw [e7] at e6 okq
            dsimp only at e6
            intro H7 t7 r7 q7 s7 ht7 hr7 hq7
            refine ⟨_, rfl, rfl, _, rfl, iteF ?_⟩
            have h17 := s7 _ _ (s6 _ _ h15)
            refine ⟨_, rfl, t7, _, _, _, rfl, rfl, SqT.of ht7, atI_nat (j := 0) rfl, _, rfl, _, rfl, r1, _, _, _, rfl, rfl, SqL.of h17, atI_nat (j := 1) rfl, _, rfl, _, rfl, _, rfl, r1, _, _, _, rfl, rfl, SqL.of h17, atI_nat (j := 4) rfl, sz (by show 5 ≤ 1000000; decide), fun p8 n8 => ?_⟩
            have s8 := same_new n8 (.lst [nV g', nV b', nV i', .int (1 + (k : Int)), nV m'])
            refine ⟨_, _, nums_dp [g2, b2, i2, p2', m2] (s8 _ _ hr7), dpL (ns := [(g' : Int), (b' : Int), (i' : Int), 1 + (k : Int), (m' : Int)]) (SqL.of upd_same), shL _, shL _, _, rfl, ?_⟩
            rw [eqvL]
            have h78 := s8 _ _ hq7
            have h68 := s8 _ _ (s7 _ _ h6)
            have ht78 := s8 _ _ ht7
            have S8 := s6.trans (s7.trans s8)
            by_cases c7 : g2 = g' ∧ b2 = b' ∧ i2 = i' ∧ p2' = 1 + k ∧ m2 = m'
            · rw [if_pos c7] at e6
              obtain ⟨rfl, rfl, rfl, rfl, rfl⟩ := c7
              have ee : (([g2, b2, i2, 1 + k, m2] : List Nat).map fun n : Nat => (n : Int)) = [(g2 : Int), (b2 : Int), (i2 : Int), 1 + (k : Int), (m2 : Int)] := by
                show [(g2 : Int), (b2 : Int), (i2 : Int), ((1 + k : Nat) : Int), (m2 : Int)] = _
                rw [show ((1 + k : Nat) : Int) = 1 + (k : Int) by omega]
              rw [decide_eq_true ee]
              refine iteF ?_
              have l2 := okq.2.2.2.2.2
              have hm2 := okq.2.2.2.2.1
              refine ⟨_, rfl, _, rfl, t7, _, _, _, rfl, rfl, SqT.of ht78, atI_nat (j := 1) rfl, r, q7, _, _, rfl, rfl, h68, h78, sz (by rw [List.length_map, List.length_map]; omega), fun p9 n9 => ?_⟩
              have s9 := same_new n9 (.lst (row.map V.int ++ bs2.map V.int))
              refine ⟨row ++ bs2, p9, some (.int (1 + (k : Int))), some (.ref t7), rfl, S8.trans s9, by rw [upd_same, vmap], by rw [List.length_append]; omega, ?_⟩
              rw [← Nat.add_assoc]
              exact e6
            · rw [if_neg c7] at e6
              have ne : ¬ (([g2, b2, i2, p2', m2] : List Nat).map fun n : Nat => (n : Int)) = [(g' : Int), (b' : Int), (i' : Int), 1 + (k : Int), (m' : Int)] := by
                intro z
                have z' : [(g2 : Int), (b2 : Int), (i2 : Int), (p2' : Int), (m2 : Int)] = [(g' : Int), (b' : Int), (i' : Int), 1 + (k : Int), (m' : Int)] := z
                injection z' with z1 z'
                injection z' with z2 z'
                injection z' with z3 z'
                injection z' with z4 z'
                injection z' with z5 z'
                exact c7 ⟨by omega, by omega, by omega, by omega, by omega⟩
              rw [decide_eq_false ne]
              exact iteT (fin0 e6.symm _ (s7.trans s8))
        · rintro σ H6 ⟨row, r, u8, u9, rfl, s6, h6, l6, e6⟩
          rw [Nat.sub_self, rdParts] at e6
          have h16 := s6 _ _ h15
          refine ⟨_, rfl, _, rfl, r1, _, _, _, rfl, rfl, SqL.of h16, atI_nat (j := 1) rfl, _, rfl, r1, _, _, _, rfl, rfl, SqL.of h16, atI_nat (j := 4) rfl, sz (by show 3 ≤ 1000000; decide), fun p8 n8 => ?_⟩
          have s8 := same_new n8 (.tup [.ref r, nV b', nV m'])
          exact hq (some row) e6.symm _ p8 r (S5.trans (s6.trans s8)) upd_same (s8 _ _ h6)
      · rw [if_neg (fun z => cb z.2.2.2)] at q
        rw [decide_eq_true (show (b' : Int) < (bt : Int) by omega)]
        exact iteT (q H5 S5)
    · rw [if_neg (fun z => c ⟨z.1, z.2.1, z.2.2.1⟩)] at q
      have ne : ¬ ([(g' : Int), (i' : Int), (p' : Int)] : List Int) = [(g : Int), (ix : Int), 0] := by
        intro z
        injection z with z1 z
        injection z with z2 z
        injection z with z3 z
        exact c ⟨by omega, by omega, by omega⟩
      rw [decide_eq_false ne]
      exact iteT (q H5 S5)
end
end Mj
set_option Elab.async false
set_option linter.all false
set_option maxRecDepth 100000
set_option maxHeartbeats 4000000
namespace Mj
open PySem L2
theorem Off.dp {K : PySem.W.Frag} {H H' : Hp} {a : Addr} {us : List V} {vs : List V} {ds : List PyData} (o : Off a H H') (e : H a = some (.lst us)) (im : immAll ds = true) (h : DpAll K H vs ds) : DpAll K H' vs ds := DpAll.kt (o.kt e) im h
theorem recs_imm {rs : List PyData} (h : ∀ r ∈ rs, OkD 2 r) : immAll rs = true := immAll_iff.mpr fun d hd => OkD.imm 2 (h d hd)
/-- what read_record has found where the records todo begin -/
def FV (H : Hp) (D : Disk) (g pl ix bt e : Nat) (fv : V) : List PyData → Prop
  | [] => fv = .non ∧ pl = e
  | r :: tl => ∃ (b m : Nat) (t row : Addr), fv = .ref t ∧ H t = some (.tup [.ref row, nV b, nV m]) ∧ H row = some (.lst ((rowOf r).map V.int)) ∧ OkD 2 r ∧ m = nparts (rowOf r) ∧ Reads D g (pl + m) (ix + 1) b tl e
theorem fv_of {H : Hp} {Q : VK} {D : Disk} {g pl ix bt e : Nat} : ∀ {todo : List PyData}, Reads D g pl ix bt todo e → (∀ H' fv, Same H H' → FV H' D g pl ix bt e fv todo → Q fv H') → rrP H Q (rdRec D pl g ix bt)
  | [], ⟨h1, h2⟩, q => by rw [h2]; exact fun H' s => q H' .non s ⟨rfl, h1.symm⟩
  | r :: tl, ⟨b, m, h1, h2, h3, h4, h5⟩, q => by rw [h1]; exact fun H' t row s ht hr => q H' (.ref t) s ⟨b, m, t, row, rfl, ht, hr, h2, h3, h5⟩
section
variable {P : Program} {w : World} {K : PySem.W.Frag} {mg : Str → Option Value} {base : Heap} {C : Addr} {f : Addr} {fd : FuncData}
/-! ## read_records -/
def spRdRecs (K : PySem.W.Frag) : Sp := fun vs H Q _ => ∃ (a hv : Addr) (D : Disk) (g s hb e : Nat) (rs : List PyData), vs = [.ref a, .ref hv] ∧ DiskAt K H a D ∧ (∀ x ∈ D, x.Ok) ∧ SqT K H hv [nV g, nV s, nV hb] ∧ Reads D g s 0 hb rs e ∧ rs.length ≤ 100000 ∧
  ∀ H' t l us, Same H H' → H l = none → H' t = some (.tup [.ref l, nV e]) → H' l = some (.lst us) → DpAll K H' us rs → Q (.ref t) H'
theorem ok_rdRecs (F : Fun K "read_records" "read_records" sRdRecs f fd) (T : Txt K mg C) (cR : C8.Cal P w K mg base 4 "read_record" (spRdRec K) []) (cU : C8.Cal P w K mg base 9 "unpack" (spUnpack K) []) : FnOk P w K mg base CX0 10 f fd ["sectors", "head"] (spRdRecs K) := by
  refine F.ok scRdRecs (fun vs H Q E h => by obtain ⟨a, hv, D, g, s, hb, e, rs, rfl, _⟩ := h; rfl) (fun cdv A outer s H vs Q E hr h => ?_)
  obtain ⟨a, hv, D, g, s, hb, e, rs, rfl, hD, ok, hH, hR, hrl, q⟩ := h
  have nd := scRdRecs.nd
  refine ⟨_, (pss_cons (ps_asg (pv 1) (pg_tup (by rfl) (pgs_cons (pg_name (i := 2) nd rfl (Or.inl rfl)) (pgs_cons (pg_name (i := 3) nd rfl (Or.inl rfl)) (pgs_cons (pg_name (i := 4) nd rfl (Or.inl rfl)) pgs_nil))))) (pss_cons ((ps_set (i := 5) nd rfl (Or.inl rfl) (pe_lst pa_nil))) (pss_cons ((ps_set (i := 6) nd rfl (Or.inl rfl) ((C8.pe_c cR hr (by omega) (by rfl) (pa_cons (pv 0) (pa_cons (pv 3) (pa_cons (pv 2) (pa_cons (pe_int) (pa_cons (pv 4) pa_nil))))))))) (pss_cons ((ps_while PassesOwn.never (pt_cmpR op_notN (pv 6) pe_non (nomark _)) (pss_cons ((ps_expr ((pe_bm PySem.F.plainAttrs_list PySem.F.slot_list_append PySem.F.type_list_append mt_append (pv 5) (pa_cons ((C8.pe_c cU hr (by omega) (by rfl) (pa_cons ((pe_ix ix_tup (pv 6) (pe_int) (fun _ _ => rfl))) pa_nil))) pa_nil))))) (pss_cons ((ps_set (i := 4) nd rfl (Or.inl rfl) ((pe_ix ix_tup (pv 6) (pe_int) (fun _ _ => rfl))))) (pss_cons ((ps_set (i := 3) nd rfl (Or.inl rfl) ((pe_op op_add (pv 3) ((pe_ix ix_tup (pv 6) (pe_int) (fun _ _ => rfl))))))) (pss_one ((ps_set (i := 6) nd rfl (Or.inl rfl) ((C8.pe_c cR hr (by omega) (by rfl) (pa_cons (pv 0) (pa_cons (pv 3) (pa_cons (pv 2) (pa_cons ((pe_callB call_len_seq (by rfl) T.b_len PySem.boot_len (pa_cons (pv 5) pa_nil))) (pa_cons (pv 4) pa_nil))))))))))))))) (pss_one ((ps_ret ((pe_tup (pa_cons (pv 5) (pa_cons (pv 3) pa_nil))))))))))), ?_⟩
  have okr := hR.ok
  refine ⟨_, rfl, hv, _, rfl, hH, rfl, _, _, rfl, _, _, rfl, _, _, rfl, rfl, ?_⟩
  refine ⟨sz (Nat.zero_le _), fun l hl => ?_⟩
  have s1 := same_new hl (.lst [])
  refine ⟨_, rfl, _, rfl, _, rfl, _, rfl, a, D, s, g, 0, hb, rfl, hD.same s1, ok, fv_of hR fun H2 fv s2 hfv => ?_⟩
  refine while_by (fun σ H' => ∃ (done todo : List PyData) (pl bt : Nat) (fv : V) (us : List V), σ = [some (.ref a), some (.ref hv), some (nV g), some (nV pl), some (nV bt), some (.ref l), some fv] ∧ Same H H' ∧ H' l = some (.lst us) ∧
      DpAll K H' us done ∧ done ++ todo = rs ∧ FV H' D g pl done.length bt e fv todo ∧ pl ≤ e)
    (fun σ _ => e - wNum 3 σ) ⟨[], rs, s, hb, fv, [], rfl, s1.trans s2, s2 _ _ upd_same, .nil, rfl, hfv, by have := hR.end_eq; omega⟩ ?_ (fun σ H Q Q' h ⟨v, hv, e1, b, e3, q⟩ => ⟨v, hv, e1, b, e3, h _ _ q⟩)
  rintro σ H3 ⟨done, todo, pl, bt, fv, us, rfl, s3, h3, dp3, ers, hf, hpe⟩
  have hul := dp3.length
  cases todo with
  | nil =>
    obtain ⟨rfl, rfl⟩ := hf
    rw [List.append_nil] at ers
    subst ers
    refine ⟨_, rfl, rfl, _, rfl, iteF ?_⟩
    refine ⟨_, rfl, _, rfl, sz (by show 2 ≤ 1000000; decide), fun t ht => ?_⟩
    have s4 := same_new ht (.tup [.ref l, nV pl])
    exact q _ t l us (s3.trans s4) hl upd_same (s4 _ _ h3) (DpAll.same s4 dp3)
  | cons r tl =>
    obtain ⟨b, m, t, row, rfl, ht, hrow, okr1, hm, hR2⟩ := hf
    have hmp := nparts_pos okr1
    have hend := hR2.end_eq
    refine ⟨_, rfl, rfl, _, rfl, iteT ?_⟩
    refine ⟨_, rfl, .inl ⟨rfl, _, SqL.of h3⟩, _, rfl, t, _, _, _, rfl, rfl, SqT.of ht, atI_nat (j := 0) rfl, row, r, rfl, SqL.of hrow, okr1, fun H4 v s4 hv4 => ?_⟩
    have h34 := s4 _ _ h3
    have rl : rs.length = done.length + (tl.length + 1) := by rw [← ers]; simp
    refine ⟨l, us, v, rfl, rfl, h34, szl (by rw [hul]; omega), ?_⟩
    have o5 : Off l H4 (upd H4 l (.lst (us ++ [v]))) := (Off.refl l H4).upd _
    have ht5 : (upd H4 l (.lst (us ++ [v]))) t = some (.tup [.ref row, nV b, nV m]) := by rw [upd_ne (ne_of (s4 _ _ ht) h34 (by intro z; cases z))]; exact s4 _ _ ht
    have im : immAll (done ++ [r]) = true := recs_imm fun x hx => by
      rcases List.mem_append.mp hx with hx | hx
      · exact okr x (by rw [← ers]; exact List.mem_append_left _ hx)
      · rw [List.mem_singleton.mp hx]; exact okr1
    have dp5 : DpAll K (upd H4 l (.lst (us ++ [v]))) (us ++ [v]) (done ++ [r]) := o5.dp h34 im ((DpAll.same s4 dp3).append (.cons hv4 .nil))
    have S5 : Same H (upd H4 l (.lst (us ++ [v]))) := same_mut (s3.trans s4) hl _
    refine ⟨_, rfl, t, _, _, _, rfl, rfl, SqT.of ht5, atI_nat (j := 1) rfl, ?_⟩
    refine ⟨_, rfl, _, rfl, t, _, _, _, rfl, rfl, SqT.of ht5, atI_nat (j := 2) rfl, _, _, rfl, rfl, ?_⟩
    have ul2 : (us ++ [v]).length = done.length + 1 := by rw [List.length_append, hul]; rfl
    refine ⟨_, rfl, _, rfl, _, rfl, _, rfl, l, _, rfl, .inl (SqL.of upd_same), _, rfl, a, D, pl + m, g, done.length + 1, b, ?_, hD.same S5, ok, fv_of hR2 fun H6 fv6 s6 hfv6 => ?_⟩
    · rw [ul2]
      rfl
    · refine ⟨⟨done ++ [r], tl, pl + m, b, fv6, us ++ [v], rfl, S5.trans s6, s6 _ _ upd_same, DpAll.same s6 dp5, by rw [List.append_assoc]; exact ers, ?_, by omega⟩, ?_⟩
      · rw [List.length_append]
        exact hfv6
      · show e - ((pl : Int) + (m : Int)).toNat < e - ((pl : Int)).toNat
        omega
/-! ## parts_needed, check_records -/
def spPN (K : PySem.W.Frag) : Sp := fun vs H Q _ => ∃ (v : V) (r : PyData), vs = [v] ∧ Dp K H v r ∧ OkD 2 r ∧ ∀ H', Same H H' → Q (nV (nparts (rowOf r))) H'
theorem ok_pn (F : Fun K "parts_needed" "parts_needed" sPartsN f fd) (T : Txt K mg C) (cP : C8.Cal P w K mg base 6 "pack" (spPack K) []) : FnOk P w K mg base CX0 7 f fd ["record"] (spPN K) := by
  refine F.ok scPartsN (fun vs H Q E h => by obtain ⟨v, r, rfl, _⟩ := h; rfl) (fun cdv A outer s H vs Q E hr h => ?_)
  obtain ⟨v, r, rfl, hd, ok, q⟩ := h
  refine ⟨_, (pss_one ((ps_ret ((pe_op op_fdiv ((pe_op op_sub ((pe_op op_add ((pe_callB call_len_seq (by rfl) T.b_len PySem.boot_len (pa_cons ((C8.pe_c cP hr (by omega) (by rfl) (pa_cons (pv 0) pa_nil))) pa_nil))) ((C8.pe_gc (by rfl) T.c_PIECE)))) (pe_int))) ((C8.pe_gc (by rfl) T.c_PIECE))))))), ?_⟩
  refine ⟨_, rfl, v, r, rfl, hd, ok, fun H1 p s1 n1 hp => ?_⟩
  refine ⟨p, _, rfl, .inl (SqL.of hp), _, _, rfl, rfl, _, _, rfl, rfl, _, _, rfl, rfl, ⟨by decide, by decide⟩, ?_⟩
  have e : (((((packD 2 r).map V.int).length : Int) + 40 - 1) / 40) = ((nparts (rowOf r) : Nat) : Int) := by
    rw [List.length_map]
    unfold nparts rowOf
    omega
  show Q (.int (((((packD 2 r).map V.int).length : Int) + 40 - 1) / 40)) H1
  rw [e]
  exact q H1 s1
def spChk (K : PySem.W.Frag) : Sp := fun vs H Q _ => ∃ (a : Addr) (us : List V) (rs : List PyData), vs = [.ref a] ∧ SqL K H a us ∧ DpAll K H us rs ∧ (∀ r ∈ rs, OkD 2 r) ∧ Q .non H
theorem ok_chk (F : Fun K "check_records" "check_records" sChkRecs f fd) (T : Txt K mg C) (cV : C8.Cal P w K mg base 5 "is_value" (spIV K) []) : FnOk P w K mg base CX0 6 f fd ["records"] (spChk K) := by
  refine F.ok scChkRecs (fun vs H Q E h => by obtain ⟨a, us, rs, rfl, _⟩ := h; rfl) (fun cdv A outer s H vs Q E hr h => ?_)
  obtain ⟨a, us, rs, rfl, hS, hd, ok, q⟩ := h
  have nd := scChkRecs.nd
  refine ⟨_, (pss_one ((ps_for PassesOwn.never rfl (pi_list (pv 0)) ((pg_name (i := 1) nd rfl (Or.inl rfl))) (pss_one ((ps_if (pt_not (pt_val (C8.pe_c cV hr (by omega) (by rfl) (pa_cons (pv 1) pa_nil)))) (pss_one (ps_never)) pss_nil)))))), ?_⟩
  refine ⟨_, rfl, a, rfl, ⟨_, hS⟩, for_list (K := K) (a := a) (xs := us) (fun i σ H' => ∃ u, σ = [some (.ref a), u] ∧ H' = H) ⟨none, rfl, rfl⟩ (fun i σ H' _ ⟨_, _, e⟩ => by rw [e]; exact hS) ?_ ?_⟩
  · rintro i x σ H' hi ⟨u, rfl, rfl⟩
    obtain ⟨d, h1, h2⟩ := hd.getv hi
    exact ⟨_, rfl, x, d, rfl, h2, ok d (List.mem_of_getElem? h1), _, rfl, iteF ⟨_, rfl, rfl⟩⟩
  · rintro σ H' ⟨u, rfl, rfl⟩
    exact q
/-! ## part_writes -/
def spPW (K : PySem.W.Frag) : Sp := fun vs H Q _ => ∃ (v : V) (r : PyData) (pl g b ix : Nat) (nl : Addr), vs = [v, nV pl, .ref nl] ∧ Dp K H v r ∧ OkD 2 r ∧ H nl = some (.lst [nV g, nV b, nV ix]) ∧ g < 16384 ∧ b < 16384 ∧ ix < 16384 ∧
  ∀ H' l us, Same H H' → H l = none → H' l = some (.lst us) → DpAll K H' us ((writes pl (recSecs g b ix (rowOf r))).map stpD) → Q (.ref l) H'
theorem stp_imm (ss : List Stp) : immAll (ss.map stpD) = true := immAll_iff.mpr fun d hd => by
  obtain ⟨x, _, rfl⟩ := List.mem_map.mp hd
  cases x with
  | w i s => show (imm (.str "write") && immAll [.int i, secD s]) = true; simp [immAll, imm, secD_imm]
  | sync => rfl
theorem writes_snoc (p : Nat) (ss : List Sec) (s : Sec) : writes p (ss ++ [s]) = writes p ss ++ [.w (p + ss.length) s] := by rw [writes_append]; rfl
theorem ok_pw (F : Fun K "part_writes" "part_writes" sPartW f fd) (T : Txt K mg C) (cP : C8.Cal P w K mg base 6 "pack" (spPack K) []) (cN : C8.Cal P w K mg base 1 "put_number" spPut []) (cM : C8.Cal P w K mg base 2 "make_sector" (spMk K) []) :
    FnOk P w K mg base CX0 7 f fd ["record", "place", "numbers"] (spPW K) := by
  refine F.ok scPartW (fun vs H Q E h => by obtain ⟨v, r, pl, g, b, ix, nl, rfl, _⟩ := h; rfl) (fun cdv A outer s H vs Q E hr h => ?_)
  obtain ⟨v, r, pl, g, b, ix, nl, rfl, hd, ok, hnl, hg, hb, hix, q⟩ := h
  have nd := scPartW.nd
  refine ⟨_, (pss_cons ((ps_set (i := 3) nd rfl (Or.inl rfl) ((C8.pe_c cP hr (by omega) (by rfl) (pa_cons (pv 0) pa_nil))))) (pss_cons ((ps_set (i := 4) nd rfl (Or.inl rfl) ((pe_op op_fdiv ((pe_op op_sub ((pe_op op_add ((pe_callB call_len_seq (by rfl) T.b_len PySem.boot_len (pa_cons (pv 3) pa_nil))) ((C8.pe_gc (by rfl) T.c_PIECE)))) (pe_int))) ((C8.pe_gc (by rfl) T.c_PIECE)))))) (pss_cons ((ps_set (i := 5) nd rfl (Or.inl rfl) (pe_lst pa_nil))) (pss_cons ((ps_for PassesOwn.never rfl ((pi_range1 (by rfl) T.b_range (pa_cons (pv 4) pa_nil))) ((pg_name (i := 6) nd rfl (Or.inl rfl))) (pss_cons ((ps_set (i := 7) nd rfl (Or.inl rfl) (pe_lst pa_nil))) (pss_cons ((ps_for PassesOwn.never rfl (pi_list (pe_op op_cat (pv 2) (pe_lst (pa_cons (pv 6) (pa_cons (pv 4) pa_nil))))) ((pg_name (i := 8) nd rfl (Or.inl rfl))) (pss_one ((ps_expr ((pe_bm PySem.F.plainAttrs_list PySem.F.slot_list_extend PySem.F.type_list_extend mt_extend (pv 7) (pa_cons ((C8.pe_c cN hr (by omega) (by rfl) (pa_cons (pv 8) pa_nil))) pa_nil)))))))) (pss_cons ((ps_expr ((pe_bm PySem.F.plainAttrs_list PySem.F.slot_list_extend PySem.F.type_list_extend mt_extend (pv 7) (pa_cons (pe_slice sl_list (pv 3) (po_some (pe_op op_mul (pv 6) ((C8.pe_gc (by rfl) T.c_PIECE)))) (po_some (pe_op op_add ((pe_op op_mul (pv 6) ((C8.pe_gc (by rfl) T.c_PIECE)))) ((C8.pe_gc (by rfl) T.c_PIECE))))) pa_nil))))) (pss_one ((ps_expr ((pe_bm PySem.F.plainAttrs_list PySem.F.slot_list_append PySem.F.type_list_append mt_append (pv 5) (pa_cons ((pe_tup (pa_cons (pe_str) (pa_cons ((pe_op op_add (pv 1) (pv 6))) (pa_cons ((C8.pe_c cM hr (by omega) (by rfl) (pa_cons ((C8.pe_gc (by rfl) T.c_PART)) (pa_cons (pv 7) pa_nil)))) pa_nil))))) pa_nil))))))))))) (pss_one ((ps_ret (pv 5)))))))), ?_⟩
  have hrl := packD_len 2 r ok
  rw [lenB_2] at hrl
  have hnp := nparts_le ok
  refine ⟨_, rfl, v, r, rfl, hd, ok, fun H1 p s1 n1 hp => ?_⟩
  refine ⟨_, rfl, p, _, rfl, .inl (SqL.of hp), _, _, rfl, rfl, _, _, rfl, rfl, _, _, rfl, rfl, ⟨by decide, by decide⟩, ?_⟩
  have e : (((((packD 2 r).map V.int).length : Int) + 40 - 1) / 40) = ((nparts (rowOf r) : Nat) : Int) := by
    rw [List.length_map]
    unfold nparts rowOf
    omega
  refine ⟨sz (Nat.zero_le _), fun l hl => ?_⟩
  have s2 : Same H (upd H1 l (.lst [])) := s1.trans (same_new hl _)
  have hl0 := s1.free hl
  refine ⟨_, rfl, ((nparts (rowOf r) : Nat) : Int), by rw [← e], by omega, by omega, ?_⟩
  rw [show (((nparts (rowOf r) : Nat) : Int)).toNat = nparts (rowOf r) by omega]
  refine for_range (lo := 0) (n := nparts (rowOf r)) (fun j σ H' => ∃ (u6 u7 u8 : Option V) (us : List V), σ = [some v, some (nV pl), some (.ref nl), some (.ref p), some (nV (nparts (rowOf r))), some (.ref l), u6, u7, u8] ∧ Same H H' ∧ H' p = some (.lst ((rowOf r).map V.int)) ∧ H' l = some (.lst us) ∧
      DpAll K H' us ((writes pl ((recSecs g b ix (rowOf r)).take j)).map stpD))
    ⟨none, none, none, [], by show [some v, some (nV pl), some (V.ref nl), some (V.ref p), some (V.int (((((packD 2 r).map V.int).length : Int) + 40 - 1) / 40)), some (V.ref l), none, none, none] = _; rw [e], s2, by rw [upd_ne (ne_of_none hp hl)]; exact hp, upd_same, .nil⟩ ?_ ?_
  · rintro j σ H2 hj ⟨u6, u7, u8, us, rfl, s3, hp2, hl2, dp2⟩
    have hul := dp2.length
    rw [List.length_map, writes_len, List.length_take, recSecs_len] at hul
    have e0 : (0 : Int) + (j : Int) = (j : Int) := by omega
    refine ⟨sz (Nat.zero_le _), fun pp npp => ?_⟩
    have s4 := same_new npp (.lst [])
    refine ⟨_, rfl, _, rfl, _, rfl, sz (by show 2 ≤ 1000000; decide), fun q1 nq1 => ?_⟩
    have s5 := same_new nq1 (.lst [.int (0 + (j : Int)), nV (nparts (rowOf r))])
    have hn5 := s5 _ _ (s4 _ _ (s3 _ _ hnl))
    refine ⟨nl, q1, _, _, rfl, rfl, hn5, upd_same, sz (by show 3 + 2 ≤ 1000000; decide), fun q2 nq2 => ?_⟩
    have s6 := same_new nq2 (.lst ([nV g, nV b, nV ix] ++ [.int (0 + (j : Int)), nV (nparts (rowOf r))]))
    have exs : ([nV g, nV b, nV ix] ++ [V.int (0 + (j : Int)), nV (nparts (rowOf r))]) = (([g, b, ix, j, nparts (rowOf r)] : List Nat).map fun n : Nat => V.int (n : Int)) := by
      rw [e0]
      rfl
    rw [exs] at s6
    rw [exs]
    have hLb : ∀ n ∈ ([g, b, ix, j, nparts (rowOf r)] : List Nat), n < 16384 := fun n hn => by
      simp only [List.mem_cons, List.not_mem_nil, or_false] at hn
      rcases hn with rfl | rfl | rfl | rfl | rfl <;> omega
    have S6 := s4.trans (s5.trans s6)
    have hpp6 := s6 _ _ (s5 _ _ (upd_same (H := H2) (a := pp) (o := HO.lst [])))
    have hq26 := upd_same (H := upd (upd H2 pp (HO.lst [])) q1 (HO.lst [V.int (0 + (j : Int)), nV (nparts (rowOf r))])) (a := q2) (o := HO.lst (([g, b, ix, j, nparts (rowOf r)] : List Nat).map fun n : Nat => V.int (n : Int)))
    generalize (upd (upd (upd H2 pp (HO.lst [])) q1 (HO.lst [V.int (0 + (j : Int)), nV (nparts (rowOf r))])) q2 (HO.lst (([g, b, ix, j, nparts (rowOf r)] : List Nat).map fun n : Nat => V.int (n : Int)))) = H6 at S6 hpp6 hq26
    have nq2pp : q2 ≠ pp := fun z => by rw [z, hpp6] at hq26; exact absurd hq26 (by intro y; injection y with y; injection y with y; exact absurd (congrArg List.length y) (by simp))
    have n5 : nums5 g b ix j (nparts (rowOf r)) = (([g, b, ix, j, nparts (rowOf r)] : List Nat).map putN).flatten := nums5_flat ..
    have n5l := nums5_len hg hb hix (show j < 16384 by omega) (show nparts (rowOf r) < 16384 by omega)
    refine ⟨q2, rfl, ⟨_, SqL.of hq26⟩, for_list (K := K) (a := q2) (xs := (([g, b, ix, j, nparts (rowOf r)] : List Nat).map fun n : Nat => V.int (n : Int))) (fun i σ H' => ∃ (u8 : Option V), σ = [some v, some (nV pl), some (.ref nl), some (.ref p), some (nV (nparts (rowOf r))), some (.ref l), some (.int (0 + (j : Int))), some (.ref pp), u8] ∧ Off pp H6 H' ∧
        H' pp = some (.lst ((((([g, b, ix, j, nparts (rowOf r)] : List Nat).take i).map putN).flatten).map V.int)))
      ⟨u8, rfl, Off.refl _ _, hpp6⟩ (fun i σ H' _ ⟨_, _, o, _⟩ => SqL.of (o q2 _ nq2pp hq26)) ?_ ?_⟩
    · rintro i x σ H7 hi ⟨u8, rfl, o7, h7⟩
      obtain ⟨n, hn, rfl⟩ : ∃ n, ([g, b, ix, j, nparts (rowOf r)] : List Nat)[i]? = some n ∧ nV n = x := by
        rw [List.getElem?_map] at hi
        cases e : ([g, b, ix, j, nparts (rowOf r)] : List Nat)[i]? with
        | none => rw [e] at hi; cases hi
        | some z => rw [e] at hi; exact ⟨z, rfl, Option.some.inj hi⟩
      have hnb := hLb n (List.mem_of_getElem? hn)
      have h2n := putN_2 hnb
      have hil := (List.getElem?_eq_some_iff.mp hn).1
      have fl : (((([g, b, ix, j, nparts (rowOf r)] : List Nat).take i).map putN).flatten).length ≤ 10 := by
        have : (((([g, b, ix, j, nparts (rowOf r)] : List Nat).take i).map putN).flatten).length ≤ (((([g, b, ix, j, nparts (rowOf r)] : List Nat)).map putN).flatten).length := by
          conv => rhs; rw [← List.take_append_drop i ([g, b, ix, j, nparts (rowOf r)] : List Nat), List.map_append, List.flatten_append, List.length_append]
          exact Nat.le_add_right _ _
        rw [← n5] at this
        omega
      refine ⟨_, rfl, .inl ⟨rfl, _, SqL.of h7⟩, _, rfl, n, rfl, by omega, fun H8 p8 s8 n8 h8 => ?_⟩
      refine ⟨pp, p8, _, _, rfl, rfl, s8 _ _ h7, h8, sz (by rw [List.length_map, List.length_map]; omega), ?_⟩
      refine ⟨some (nV n), rfl, (o7.trans (Off.of s8)).upd _, ?_⟩
      rw [upd_same, vmap, map_take hn, List.flatten_append]
      simp
    · rintro σ H7 ⟨u8, rfl, o7, h7⟩
      rw [List.length_map, List.take_length, ← n5] at h7
      have hne : ∀ {x : Addr} {o : HO}, H2 x = some o → x ≠ pp := fun hx => ne_of_none hx npp
      have S7 : Same H2 H7 := fun x o hx => o7 x o (hne hx) (S6 x o hx)
      have hp7 := S7 _ _ hp2
      have hl7 := S7 _ _ hl2
      have cm : cutV ((rowOf r).map V.int) (some ((0 + (j : Int)) * 40)) (some ((0 + (j : Int)) * 40 + 40)) = (piece (rowOf r) j).map V.int := by
        have := cut_mid ((rowOf r).map V.int) (j * 40) (j * 40 + 40)
        rw [show (((j * 40 : Nat)) : Int) = (0 + (j : Int)) * 40 by omega, show (((j * 40 + 40 : Nat)) : Int) = (0 + (j : Int)) * 40 + 40 by omega] at this
        rw [this, ← List.map_drop, ← List.map_take]
        unfold piece
        rw [Nat.add_sub_cancel_left]
      refine ⟨_, rfl, .inl ⟨rfl, _, SqL.of h7⟩, _, rfl, _, rfl, _, _, rfl, rfl, .inl ⟨by omega, by omega⟩, (0 + (j : Int)) * 40, rfl, _, rfl, _, _, rfl, rfl, .inl ⟨by omega, by omega⟩, _, _, rfl, rfl, (0 + (j : Int)) * 40 + 40, rfl, p, _, rfl, SqL.of hp7, fun q3 nq3 => ?_⟩
      rw [cm]
      have s8 := same_new nq3 (.lst ((piece (rowOf r) j).map V.int))
      have pcl := piece_len (rowOf r) j
      refine ⟨pp, q3, _, _, rfl, rfl, s8 _ _ h7, upd_same, sz (by rw [List.length_map, List.length_map]; omega), ?_⟩
      have nq3pp : q3 ≠ pp := fun z => by rw [z, h7] at nq3; cases nq3
      have S9 : Same H2 (upd (upd H7 q3 (.lst ((piece (rowOf r) j).map V.int))) pp (.lst ((nums5 g b ix j (nparts (rowOf r))).map V.int ++ (piece (rowOf r) j).map V.int))) := fun x o hx => by
        rw [upd_ne (hne hx)]
        exact s8 _ _ (S7 _ _ hx)
      rw [vmap] at S9 ⊢
      have hl9 := S9 _ _ hl2
      refine ⟨_, rfl, .inl ⟨rfl, _, SqL.of hl9⟩, _, rfl, _, rfl, _, _, rfl, rfl, _, rfl, 2, pp, nums5 g b ix j (nparts (rowOf r)) ++ piece (rowOf r) j, rfl, upd_same, by rw [List.length_append]; omega, fun H10 p10 s10 n10 h10 => ?_⟩
      refine ⟨sz (by show 3 ≤ 1000000; decide), fun q4 nq4 => ?_⟩
      have s11 := same_new nq4 (.tup [.str "write", .int ((pl : Int) + (0 + (j : Int))), .ref p10])
      have S11 := S9.trans (s10.trans s11)
      have hl11 := S11 _ _ hl2
      refine ⟨l, us, _, rfl, rfl, hl11, szl (by omega), ?_⟩
      have o12 : Off l (upd H10 q4 (.tup [.str "write", .int ((pl : Int) + (0 + (j : Int))), .ref p10])) (upd (upd H10 q4 (.tup [.str "write", .int ((pl : Int) + (0 + (j : Int))), .ref p10])) l (.lst (us ++ [.ref q4]))) := (Off.refl _ _).upd _
      refine ⟨some (.int (0 + (j : Int))), some (.ref pp), u8, us ++ [.ref q4], rfl, same_mut (s3.trans S11) hl0 _, ?_, upd_same, ?_⟩
      · have npl : p ≠ l := ne_of_none hp hl
        rw [upd_ne npl]
        exact S11 _ _ hp2
      · have et : (recSecs g b ix (rowOf r)).take (j + 1) = (recSecs g b ix (rowOf r)).take j ++ [partSec g b ix (rowOf r) j] := by
          rw [List.take_add_one, recSecs_get hj]
          rfl
        rw [et, writes_snoc, List.map_append]
        refine o12.dp hl11 ?_ ((DpAll.same S11 dp2).append (.cons ?_ .nil))
        · have := stp_imm (writes pl ((recSecs g b ix (rowOf r)).take j) ++ [.w (pl + ((recSecs g b ix (rowOf r)).take j).length) (partSec g b ix (rowOf r) j)])
          rw [List.map_append] at this
          exact this
        · have e2 : ((pl : Int) + (0 + (j : Int))) = ((pl + ((recSecs g b ix (rowOf r)).take j).length : Nat) : Int) := by
            rw [List.length_take, recSecs_len, Nat.min_eq_left (by omega)]
            omega
          show Dp K _ _ (.tuple [.str "write", .int ((pl + ((recSecs g b ix (rowOf r)).take j).length : Nat) : Int), secD (partSec g b ix (rowOf r) j)])
          rw [← e2]
          refine .tup (SqT.of upd_same) (.cons (.str _) (.cons (.int _) (.cons ?_ .nil)))
          exact dp_of_ints (SqT.of (s11 _ _ h10))
  · rintro σ H2 ⟨u6, u7, u8, us, rfl, s3, hp2, hl2, dp2⟩
    rw [← recSecs_len g b ix (rowOf r), List.take_length] at dp2
    exact ⟨_, rfl, q H2 l us s3 hl0 hl2 dp2⟩
end
end Mj
set_option Elab.async false
set_option linter.all false
set_option maxRecDepth 100000
set_option maxHeartbeats 4000000
namespace Mj
open PySem L2
/-! ## the fields of a journal -/
def jf (b g s e : Nat) (l : Addr) : List (Str × V) := [("_boot", nV b), ("_generation", nV g), ("_start", nV s), ("_end", nV e), ("_records", .ref l)]
theorem nbg : ¬ (("_boot" : Str) = "_generation") := by decide +kernel
theorem nbs : ¬ (("_boot" : Str) = "_start") := by decide +kernel
theorem nbe : ¬ (("_boot" : Str) = "_end") := by decide +kernel
theorem nbr : ¬ (("_boot" : Str) = "_records") := by decide +kernel
theorem ngs : ¬ (("_generation" : Str) = "_start") := by decide +kernel
theorem nge : ¬ (("_generation" : Str) = "_end") := by decide +kernel
theorem ngr : ¬ (("_generation" : Str) = "_records") := by decide +kernel
theorem nse : ¬ (("_start" : Str) = "_end") := by decide +kernel
theorem nsr : ¬ (("_start" : Str) = "_records") := by decide +kernel
theorem ner : ¬ (("_end" : Str) = "_records") := by decide +kernel
section
variable {n0 n1 n2 n3 n4 : Str} {a b c d e x : V}
theorem put5 (h01 : ¬ n0 = n1) (h02 : ¬ n0 = n2) (h03 : ¬ n0 = n3) (h04 : ¬ n0 = n4) (h12 : ¬ n1 = n2) (h13 : ¬ n1 = n3) (h14 : ¬ n1 = n4) (h23 : ¬ n2 = n3) (h24 : ¬ n2 = n4) (h34 : ¬ n3 = n4) :
    putF n4 e (putF n3 d (putF n2 c (putF n1 b (putF n0 a [])))) = [(n0, a), (n1, b), (n2, c), (n3, d), (n4, e)] := by
  simp [putF, h01, h02, h03, h04, h12, h13, h14, h23, h24, h34]
theorem put_1 (h01 : ¬ n0 = n1) : putF n1 x [(n0, a), (n1, b), (n2, c), (n3, d), (n4, e)] = [(n0, a), (n1, x), (n2, c), (n3, d), (n4, e)] := by simp [putF, h01]
theorem put_2 (h02 : ¬ n0 = n2) (h12 : ¬ n1 = n2) : putF n2 x [(n0, a), (n1, b), (n2, c), (n3, d), (n4, e)] = [(n0, a), (n1, b), (n2, x), (n3, d), (n4, e)] := by simp [putF, h02, h12]
theorem put_3 (h03 : ¬ n0 = n3) (h13 : ¬ n1 = n3) (h23 : ¬ n2 = n3) : putF n3 x [(n0, a), (n1, b), (n2, c), (n3, d), (n4, e)] = [(n0, a), (n1, b), (n2, c), (n3, x), (n4, e)] := by simp [putF, h03, h13, h23]
theorem put_4 (h04 : ¬ n0 = n4) (h14 : ¬ n1 = n4) (h24 : ¬ n2 = n4) (h34 : ¬ n3 = n4) : putF n4 x [(n0, a), (n1, b), (n2, c), (n3, d), (n4, e)] = [(n0, a), (n1, b), (n2, c), (n3, d), (n4, x)] := by simp [putF, h04, h14, h24, h34]
theorem lk0 : ([(n0, a), (n1, b), (n2, c), (n3, d), (n4, e)] : List (Str × V)).lookup n0 = some a := by simp [List.lookup]
theorem lk1 (h01 : ¬ n0 = n1) : ([(n0, a), (n1, b), (n2, c), (n3, d), (n4, e)] : List (Str × V)).lookup n1 = some b := by
  have h : (n1 == n0) = false := beq_eq_false_iff_ne.mpr fun z => h01 z.symm
  simp [List.lookup, h]
theorem lk2 (h02 : ¬ n0 = n2) (h12 : ¬ n1 = n2) : ([(n0, a), (n1, b), (n2, c), (n3, d), (n4, e)] : List (Str × V)).lookup n2 = some c := by
  have h : (n2 == n0) = false := beq_eq_false_iff_ne.mpr fun z => h02 z.symm
  have h' : (n2 == n1) = false := beq_eq_false_iff_ne.mpr fun z => h12 z.symm
  simp [List.lookup, h, h']
theorem lk3 (h03 : ¬ n0 = n3) (h13 : ¬ n1 = n3) (h23 : ¬ n2 = n3) : ([(n0, a), (n1, b), (n2, c), (n3, d), (n4, e)] : List (Str × V)).lookup n3 = some d := by
  have h : (n3 == n0) = false := beq_eq_false_iff_ne.mpr fun z => h03 z.symm
  have h' : (n3 == n1) = false := beq_eq_false_iff_ne.mpr fun z => h13 z.symm
  have h2 : (n3 == n2) = false := beq_eq_false_iff_ne.mpr fun z => h23 z.symm
  simp [List.lookup, h, h', h2]
theorem lk4 (h04 : ¬ n0 = n4) (h14 : ¬ n1 = n4) (h24 : ¬ n2 = n4) (h34 : ¬ n3 = n4) : ([(n0, a), (n1, b), (n2, c), (n3, d), (n4, e)] : List (Str × V)).lookup n4 = some e := by
  have h : (n4 == n0) = false := beq_eq_false_iff_ne.mpr fun z => h04 z.symm
  have h' : (n4 == n1) = false := beq_eq_false_iff_ne.mpr fun z => h14 z.symm
  have h2 : (n4 == n2) = false := beq_eq_false_iff_ne.mpr fun z => h24 z.symm
  have h3 : (n4 == n3) = false := beq_eq_false_iff_ne.mpr fun z => h34 z.symm
  simp [List.lookup, h, h', h2, h3]
theorem lkn {m : Str} (h0 : ¬ m = n0) (h1 : ¬ m = n1) (h2 : ¬ m = n2) (h3 : ¬ m = n3) (h4 : ¬ m = n4) : ([(n0, a), (n1, b), (n2, c), (n3, d), (n4, e)] : List (Str × V)).lookup m = none := by
  simp [List.lookup, beq_eq_false_iff_ne.mpr h0, beq_eq_false_iff_ne.mpr h1, beq_eq_false_iff_ne.mpr h2, beq_eq_false_iff_ne.mpr h3, beq_eq_false_iff_ne.mpr h4]
end
section
variable (b g s e : Nat) (l : Addr)
theorem jf_b : (jf b g s e l).lookup ("_boot" : Str) = some (nV b) := lk0
theorem jf_g : (jf b g s e l).lookup ("_generation" : Str) = some (nV g) := lk1 nbg
theorem jf_s : (jf b g s e l).lookup ("_start" : Str) = some (nV s) := lk2 nbs ngs
theorem jf_e : (jf b g s e l).lookup ("_end" : Str) = some (nV e) := lk3 nbe nge nse
theorem jf_r : (jf b g s e l).lookup ("_records" : Str) = some (.ref l) := lk4 nbr ngr nsr ner
theorem jf_no {m : Str} (h0 : ¬ m = "_boot") (h1 : ¬ m = "_generation") (h2 : ¬ m = "_start") (h3 : ¬ m = "_end") (h4 : ¬ m = "_records") : (jf b g s e l).lookup m = none := lkn h0 h1 h2 h3 h4
theorem jf_init : putF "_records" (.ref l) (putF "_end" (nV e) (putF "_start" (nV s) (putF "_generation" (nV g) (putF "_boot" (nV b) [])))) = jf b g s e l := put5 nbg nbs nbe nbr ngs nge ngr nse nsr ner
theorem jf_pg (g' : Nat) : putF "_generation" (nV g') (jf b g s e l) = jf b g' s e l := put_1 nbg
theorem jf_ps (s' : Nat) : putF "_start" (nV s') (jf b g s e l) = jf b g s' e l := put_2 nbs ngs
theorem jf_pe (e' : Nat) : putF "_end" (nV e') (jf b g s e l) = jf b g s e' l := put_3 nbe nge nse
theorem jf_pr (l' : Addr) : putF "_records" (.ref l') (jf b g s e l) = jf b g s e l' := put_4 nbr ngr nsr ner
end
/-- a journal at p, its list of records at l -/
def JAt (K : PySem.W.Frag) (C : Addr) (H : Hp) (p l : Addr) (b g s e : Nat) (rs : List PyData) : Prop := ∃ (dx : Addr) (us : List V), H p = some (.ins C dx (jf b g s e l)) ∧ H l = some (.lst us) ∧ DpAll K H us rs
/-- all but p and l is kept -/
def Off2 (p l : Addr) (H H' : Hp) : Prop := ∀ x o, x ≠ p → x ≠ l → H x = some o → H' x = some o
theorem Off2.refl (p l : Addr) (H : Hp) : Off2 p l H H := fun _ _ _ _ h => h
theorem Off2.trans {p l : Addr} {H H1 H2 : Hp} (a : Off2 p l H H1) (b : Off2 p l H1 H2) : Off2 p l H H2 := fun x o h1 h2 e => b x o h1 h2 (a x o h1 h2 e)
theorem Off2.of {p l : Addr} {H H' : Hp} (a : Same H H') : Off2 p l H H' := fun x o _ _ e => a x o e
theorem Off2.p {p l : Addr} {H H' : Hp} (a : Off2 p l H H') (o : HO) : Off2 p l H (upd H' p o) := fun x u h1 h2 e => by rw [upd_ne h1]; exact a x u h1 h2 e
theorem Off2.l {p l : Addr} {H H' : Hp} (a : Off2 p l H H') (o : HO) : Off2 p l H (upd H' l o) := fun x u h1 h2 e => by rw [upd_ne h2]; exact a x u h1 h2 e
theorem Off2.q {p l q : Addr} {H H' : Hp} (a : Off2 p l H H') (n : H q = none) (o : HO) : Off2 p l H (upd H' q o) := fun x u h1 h2 e => by rw [upd_ne (ne_of_none e n)]; exact a x u h1 h2 e
/-- an object that is no tuple is changed -/
theorem kt_upd {H : Hp} {a : Addr} {o o' : HO} (e : H a = some o) (h1 : ∀ xs, o ≠ .tup xs) (h2 : ∀ ob xs, o ≠ .frz ob (.tup xs)) : KT H (upd H a o') := fun b ys r => by
  rcases r with r | ⟨ob, r⟩
  · refine .inl ?_
    rw [upd_ne (fun z => by rw [z, e] at r; exact h1 _ (Option.some.inj r))]
    exact r
  · refine .inr ⟨ob, ?_⟩
    rw [upd_ne (fun z => by rw [z, e] at r; exact h2 _ _ (Option.some.inj r))]
    exact r
theorem kt_lst {H : Hp} {a : Addr} {us : List V} {o' : HO} (e : H a = some (.lst us)) : KT H (upd H a o') := kt_upd e (fun _ z => nomatch z) (fun _ _ z => nomatch z)
theorem kt_ins {H : Hp} {a C dx : Addr} {fs : List (Str × V)} {o' : HO} (e : H a = some (.ins C dx fs)) : KT H (upd H a o') := kt_upd e (fun _ z => nomatch z) (fun _ _ z => nomatch z)
section
variable {P : Program} {w : World} {K : PySem.W.Frag} {mg : Str → Option Value} {base : Heap} {C : Addr} {f : Addr} {fd : FuncData}
/-! ## Journal.__init__ -/
def spInit (K : PySem.W.Frag) (C : Addr) : Sp := fun vs H Q _ => ∃ (p dx a : Addr) (D : Disk) (b g s hb e : Nat) (rs : List PyData), vs = [.ref p, .ref a, nV b] ∧ H p = some (.ins C dx []) ∧ DiskAt K H a D ∧ (∀ x ∈ D, x.Ok) ∧ Heads D g s hb ∧ Reads D g s 0 hb rs e ∧ rs.length ≤ 100000 ∧
  ∀ H' l us, Off p H H' → H l = none → H' p = some (.ins C dx (jf b g s e l)) → H' l = some (.lst us) → DpAll K H' us rs → Q .non H'
theorem ok_init (F : Fun K "__init__" "Journal.__init__" sJInit f fd) (T : Txt K mg C) (cN : C8.Cal P w K mg base 11 "newest_head" (spNH K) []) (cR : C8.Cal P w K mg base 10 "read_records" (spRdRecs K) []) :
    FnOk P w K mg base CX0 12 f fd ["self", "sectors", "boot"] (spInit K C) := by
  refine F.ok scJInit (fun vs H Q E h => by obtain ⟨p, dx, a, D, b, g, s, hb, e, rs, rfl, _⟩ := h; rfl) (fun cdv A outer s H vs Q E hr h => ?_)
  obtain ⟨p, dx, a, D, b, g, s, hb, e, rs, rfl, hp, hD, ok, hH, hR, hrl, q⟩ := h
  have nd := scJInit.nd
  refine ⟨_, (pss_cons ((ps_set (i := 3) nd rfl (Or.inl rfl) ((C8.pe_c cN hr (by omega) (by rfl) (pa_cons (pv 1) pa_nil))))) (pss_cons (ps_asg (C8.pe_c cR hr (by omega) (by rfl) (pa_cons (pv 1) (pa_cons (pv 3) pa_nil))) (pg_tup (by rfl) (pgs_cons (pg_name (i := 4) nd rfl (Or.inl rfl)) (pgs_cons (pg_name (i := 5) nd rfl (Or.inl rfl)) pgs_nil)))) (pss_cons (ps_fld (pv 0) (pv 2) rfl) (pss_cons (ps_fld (pv 0) (pe_ix ix_tup (pv 3) (pe_int) (fun _ _ => rfl)) rfl) (pss_cons (ps_fld (pv 0) (pe_ix ix_tup (pv 3) (pe_int) (fun _ _ => rfl)) rfl) (pss_cons (ps_fld (pv 0) (pv 5) rfl) (pss_one (ps_fld (pv 0) (pv 4) rfl)))))))), ?_⟩
  obtain ⟨i0, i1⟩ := hH.hd
  refine ⟨_, rfl, a, D, rfl, hD, ok, i0, i1, fun H1 t s1 ht => ?_⟩
  rw [hH.nh] at ht
  refine ⟨_, rfl, _, rfl, a, t, D, g, s, hb, e, rs, rfl, hD.same s1, ok, ht, hR, hrl, fun H2 t2 l us s2 nl ht2 hl2 hd2 => ?_⟩
  refine ⟨t2, _, rfl, SqT.of ht2, rfl, _, _, rfl, _, _, rfl, rfl, ?_⟩
  have S2 := s1.trans s2
  have hp2 := S2 _ _ hp
  have htS := s2.t ht
  have nlp : l ≠ p := ne_of hl2 hp2 (by intro z; cases z)
  have le : ∀ (f : Str) (v : V) (fs : List (Str × V)), (putF f v fs).length ≤ fs.length + 1 := fun f v fs => by
    induction fs with
    | nil => exact Nat.le_refl _
    | cons x r ih =>
      obtain ⟨y, z⟩ := x
      show (if y = f then (y, v) :: r else (y, z) :: putF f v r).length ≤ _
      split
      · simp
      · simp only [List.length_cons]; omega
  have k1 : KT H2 (upd H2 p (.ins C dx (putF "_boot" (nV b) []))) := kt_ins hp2
  have k2 : ∀ o, KT (upd H2 p (.ins C dx (putF "_boot" (nV b) []))) (upd (upd H2 p (.ins C dx (putF "_boot" (nV b) []))) p o) := fun o => kt_ins upd_same
  refine ⟨_, rfl, _, rfl, p, C, dx, [], rfl, hp2, T.cl, T.n_boot, (by show 0 < 1000; decide), ?_⟩
  refine ⟨_, rfl, t, _, _, _, rfl, rfl, k1.t htS, atI_nat (j := 0) rfl, _, rfl, p, C, dx, _, rfl, upd_same, T.cl, T.n_generation, (by show 1 < 1000; decide), ?_⟩
  rw [upd_upd]
  have k3 : KT H2 (upd H2 p (.ins C dx (putF "_generation" (nV g) (putF "_boot" (nV b) [])))) := kt_ins hp2
  refine ⟨_, rfl, t, _, _, _, rfl, rfl, k3.t htS, atI_nat (j := 1) rfl, _, rfl, p, C, dx, _, rfl, upd_same, T.cl, T.n_start, ?_, ?_⟩
  · have h2 := le "_generation" (nV g) (putF "_boot" (nV b) [])
    have h3 := le "_boot" (nV b) []
    have h4 : ([] : List (Str × V)).length = 0 := rfl
    exact Nat.lt_of_le_of_lt h2 (by omega)
  rw [upd_upd]
  refine ⟨_, rfl, _, rfl, p, C, dx, _, rfl, upd_same, T.cl, T.n_end, ?_, ?_⟩
  · have h1 := le "_start" (nV s) (putF "_generation" (nV g) (putF "_boot" (nV b) []))
    have h2 := le "_generation" (nV g) (putF "_boot" (nV b) [])
    have h3 := le "_boot" (nV b) []
    have h4 : ([] : List (Str × V)).length = 0 := rfl
    exact Nat.lt_of_le_of_lt h1 (by omega)
  rw [upd_upd]
  refine ⟨_, rfl, _, rfl, p, C, dx, _, rfl, upd_same, T.cl, T.n_records, ?_, ?_⟩
  · have h0 := le "_end" (nV e) (putF "_start" (nV s) (putF "_generation" (nV g) (putF "_boot" (nV b) [])))
    have h1 := le "_start" (nV s) (putF "_generation" (nV g) (putF "_boot" (nV b) []))
    have h2 := le "_generation" (nV g) (putF "_boot" (nV b) [])
    have h3 := le "_boot" (nV b) []
    have h4 : ([] : List (Str × V)).length = 0 := rfl
    exact Nat.lt_of_le_of_lt h0 (by omega)
  rw [upd_upd]
  have ej := jf_init b g s e l
  have kf : KT H2 (upd H2 p (.ins C dx (jf b g s e l))) := kt_ins hp2
  refine q _ l us ?_ (s1.free nl) (by rw [ej]; exact upd_same) (by rw [upd_ne nlp]; exact hl2) ?_
  · intro x o hx eo
    rw [upd_ne hx]
    exact S2 x o eo
  · rw [ej]
    exact DpAll.kt kf (recs_imm hR.ok) hd2
/-! ## Journal.records -/
def spJRecs (K : PySem.W.Frag) (C : Addr) : Sp := fun vs H Q _ => ∃ (p l : Addr) (b g s e : Nat) (rs : List PyData), vs = [.ref p] ∧ JAt K C H p l b g s e rs ∧ (∀ r ∈ rs, OkD 2 r) ∧
  ∀ H' r us, Same H H' → H r = none → H' r = some (.lst us) → DpAll K H' us rs → Q (.ref r) H'
theorem ok_jrecs (F : Fun K "records" "Journal.records" sJRecs f fd) (T : Txt K mg C) : FnOk P w K mg base CX0 1 f fd ["self"] (spJRecs K C) := by
  refine F.ok scJRecs (fun vs H Q E h => by obtain ⟨p, l, b, g, s, e, rs, rfl, _⟩ := h; rfl) (fun cdv A outer s H vs Q E hr h => ?_)
  obtain ⟨p, l, b, g, s, e, rs, rfl, ⟨dx, us, hp, hl, hd⟩, ok, q⟩ := h
  refine ⟨_, (pss_one ((ps_ret ((pe_callTy call_list_of (by rfl) T.b_list (by decide +kernel) (pa_cons ((pe_fld (pv 0) rfl)) pa_nil)))))), ?_⟩
  refine ⟨_, rfl, p, C, dx, _, _, rfl, hp, T.cl, T.n_records, jf_r .., l, us, rfl, .inl (SqL.of hl), fun m hm => ?_⟩
  have s1 := same_new hm (.lst us)
  exact q _ m us s1 hm upd_same (DpAll.same s1 hd)
end
end Mj
set_option Elab.async false
set_option linter.all false
set_option maxRecDepth 100000
set_option maxHeartbeats 4000000
namespace Mj
open PySem L2
theorem allSecs_snoc {g b n : Nat} {add : List PyData} {i : Nat} {r : PyData} (h : add[i]? = some r) : allSecs g b n (add.take (i + 1)) = allSecs g b n (add.take i) ++ recSecs g b (n + i) (rowOf r) := by
  have hl := (List.getElem?_eq_some_iff.mp h).1
  rw [List.take_add_one, h]
  show allSecs g b n (add.take i ++ [r]) = _
  rw [allSecs_append, List.length_take, Nat.min_eq_left (by omega), allSecs, allSecs, List.append_nil]
theorem need_take {add : List PyData} {i : Nat} {r : PyData} (h : add[i]? = some r) : need (add.take (i + 1)) = need (add.take i) + nparts (rowOf r) := by
  rw [List.take_add_one, h, need_append]
  rfl
theorem lay_ok : ∀ (k : Nat) {d : PyData}, OkD k d → d.canLay0 = true ∧ d.depth ≤ k
  | k, .none, _ => ⟨rfl, by simp [PyData.depth]⟩
  | k, .bool _, _ => ⟨rfl, by simp [PyData.depth]⟩
  | k, .int _, _ => ⟨rfl, by simp [PyData.depth]⟩
  | k, .str x, h => by
    have h := (OkD_str h).2
    refine ⟨?_, by simp [PyData.depth]⟩
    show PyData.strOk x = true
    unfold PyData.strOk
    rw [← Array.all_toList, List.all_eq_true]
    intro c hc
    have := (h c hc).2.1
    simp
    omega
  | k, .list _, h => (OkD_list h).elim
  | k, .dict _, h => (OkD_dict h).elim
  | 0, .tuple _, h => by cases h
  | k + 1, .tuple ds, h => by
    have all : ∀ es : List PyData, (∀ d ∈ es, OkD k d) → PyData.canLayAll0 es = true ∧ PyData.depthAll es ≤ k := by
      intro es
      induction es with
      | nil => exact fun _ => ⟨rfl, by simp [PyData.depthAll]⟩
      | cons e es ih =>
        intro he
        have h1 := lay_ok k (he e (List.mem_cons_self ..))
        have h2 := ih fun x hx => he x (List.mem_cons_of_mem _ hx)
        refine ⟨by simp [PyData.canLayAll0, h1.1, h2.1], ?_⟩
        show max e.depth (PyData.depthAll es) ≤ k
        omega
    have := all ds h.2
    refine ⟨?_, ?_⟩
    · show PyData.canLayAll0 ds = true
      exact this.1
    · show PyData.depthAll ds + 1 ≤ k + 1
      omega
theorem shaped_recs {rs : List PyData} (h : ∀ r ∈ rs, OkD 2 r) : SeqAt.shaped (.list rs) = true := by
  have all : ∀ es : List PyData, (∀ d ∈ es, OkD 2 d) → PyData.canLayAll0 es = true ∧ PyData.depthAll es ≤ 2 := by
    intro es
    induction es with
    | nil => exact fun _ => ⟨rfl, by simp [PyData.depthAll]⟩
    | cons e es ih =>
      intro he
      have h1 := lay_ok 2 (he e (List.mem_cons_self ..))
      have h2 := ih fun x hx => he x (List.mem_cons_of_mem _ hx)
      refine ⟨by simp [PyData.canLayAll0, h1.1, h2.1], ?_⟩
      show max e.depth (PyData.depthAll es) ≤ 2
      omega
  have := all rs h
  unfold SeqAt.shaped
  rw [Bool.and_eq_true]
  refine ⟨this.1, decide_eq_true ?_⟩
  show PyData.depthAll rs + 1 ≤ 64
  omega
section
variable {P : Program} {w : World} {K : PySem.W.Frag} {mg : Str → Option Value} {base : Heap} {C : Addr} {f : Addr} {fd : FuncData}
/-! ## Journal.append -/
def spJApp (K : PySem.W.Frag) (C : Addr) : Sp := fun vs H Q _ => ∃ (p l a : Addr) (b g s e : Nat) (us : List V) (rs add : List PyData), vs = [.ref p, .ref a] ∧ JAt K C H p l b g s e rs ∧ H a = some (.lst us) ∧ a ≠ l ∧ DpAll K H us add ∧ (∀ r ∈ rs, OkD 2 r) ∧ (∀ r ∈ add, OkD 2 r) ∧
  g < 16384 ∧ b < 16384 ∧ rs.length + add.length < 1000 ∧ e + need add ≤ 1000000 ∧
  ∀ H' r vs', Off2 p l H H' → JAt K C H' p l b g s (e + need add) (rs ++ add) → H r = none → H' r = some (.lst vs') → DpAll K H' vs' ((appSteps e (allSecs g b rs.length add) (!add.isEmpty)).map stpD) → Q (.ref r) H'
theorem ok_japp (F : Fun K "append" "Journal.append" sJApp f fd) (T : Txt K mg C) (cC : C8.Cal P w K mg base 6 "check_records" (spChk K) []) (cW : C8.Cal P w K mg base 7 "part_writes" (spPW K) []) : FnOk P w K mg base CX0 8 f fd ["self", "records"] (spJApp K C) := by
  refine F.ok scJApp (fun vs H Q E h => by obtain ⟨p, l, a, b, g, s, e, us, rs, add, rfl, _⟩ := h; rfl) (fun cdv A outer s H vs Q E hr h => ?_)
  obtain ⟨p, l, a, b, g, s, e, us, rs, add, rfl, ⟨dx, rus, hp, hl, hd⟩, ha, nal, hadd, okr, oka, hg, hb, hn, he, q⟩ := h
  have nd := scJApp.nd
  have hu : _ + 64 < cLine := hr.units
  refine ⟨_, (pss_cons ((ps_expr ((C8.pe_c cC hr (by omega) (by rfl) (pa_cons (pv 1) pa_nil))))) (pss_cons ((ps_set (i := 2) nd rfl (Or.inl rfl) (pe_lst pa_nil))) (pss_cons ((ps_for PassesOwn.never rfl (pi_list (pv 1)) ((pg_name (i := 3) nd rfl (Or.inl rfl))) (pss_cons ((ps_set (i := 4) nd rfl (Or.inl rfl) (pe_lst (pa_cons (pe_fld (pv 0) rfl) (pa_cons (pe_fld (pv 0) rfl) (pa_cons (pe_callB call_len_seq (by rfl) T.b_len PySem.boot_len (pa_cons ((pe_fld (pv 0) rfl)) pa_nil)) pa_nil)))))) (pss_cons ((ps_expr ((pe_bm PySem.F.plainAttrs_list PySem.F.slot_list_extend PySem.F.type_list_extend mt_extend (pv 2) (pa_cons ((C8.pe_c cW hr (by omega) (by rfl) (pa_cons (pv 3) (pa_cons ((pe_op op_add ((pe_fld (pv 0) rfl)) ((pe_callB call_len_seq (by rfl) T.b_len PySem.boot_len (pa_cons (pv 2) pa_nil))))) (pa_cons (pv 4) pa_nil))))) pa_nil))))) (pss_one ((ps_expr ((pe_bm PySem.F.plainAttrs_list PySem.F.slot_list_append PySem.F.type_list_append mt_append ((pe_fld (pv 0) rfl)) (pa_cons (pv 3) pa_nil)))))))))) (pss_cons (ps_fld (pv 0) (pe_op op_add ((pe_fld (pv 0) rfl)) ((pe_callB call_len_seq (by rfl) T.b_len PySem.boot_len (pa_cons (pv 2) pa_nil)))) rfl) (pss_cons ((ps_if (pt_cmpR (op_neD hu) (pv 1) (pe_lst pa_nil) (nomark _)) (pss_one ((ps_expr ((pe_bm PySem.F.plainAttrs_list PySem.F.slot_list_append PySem.F.type_list_append mt_append (pv 2) (pa_cons (pe_tup (pa_cons pe_str pa_nil)) pa_nil)))))) pss_nil)) (pss_one ((ps_ret (pv 2))))))))), ?_⟩
  have nlp : l ≠ p := ne_of hl hp (by intro z; cases z)
  have nap : a ≠ p := ne_of ha hp (by intro z; cases z)
  have hul := hadd.length
  have hrul := hd.length
  have ima := recs_imm oka
  have imr := recs_imm okr
  refine ⟨_, rfl, a, us, add, rfl, SqL.of ha, hadd, oka, ?_⟩
  refine ⟨sz (Nat.zero_le _), fun st hst => ?_⟩
  have s1 := same_new hst (.lst [])
  refine ⟨_, rfl, a, rfl, ⟨_, SqL.of (s1 _ _ ha)⟩, for_list (K := K) (a := a) (xs := us) (fun i σ H' => ∃ (u3 u4 : Option V) (vs' rus : List V), σ = [some (.ref p), some (.ref a), some (.ref st), u3, u4] ∧ Off2 p l H H' ∧ KT H H' ∧
      H' p = some (.ins C dx (jf b g s e l)) ∧ H' l = some (.lst rus) ∧ DpAll K H' rus (rs ++ add.take i) ∧ H' st = some (.lst vs') ∧ DpAll K H' vs' ((writes e (allSecs g b rs.length (add.take i))).map stpD))
    ⟨none, none, [], rus, rfl, Off2.of s1, Same.kt s1, s1 _ _ hp, s1 _ _ hl, by simpa using DpAll.same s1 hd, upd_same, .nil⟩ (fun i σ H' _ ⟨_, _, _, _, _, o, _⟩ => SqL.of (o a _ nap nal ha)) ?_ ?_⟩
  · rintro i x σ H2 hi ⟨u3, u4, vs', rus, rfl, o2, k2, hp2, hl2, dr2, hs2, ds2⟩
    obtain ⟨r, hri, hxr⟩ := hadd.getv hi
    have okx := oka r (List.mem_of_getElem? hri)
    have hil := (List.getElem?_eq_some_iff.mp hri).1
    have nt := need_take hri
    have ntl := need_take_le add (i + 1)
    have hrl2 := dr2.length
    rw [List.length_append, List.length_take, Nat.min_eq_left (by omega)] at hrl2
    have hvl := ds2.length
    rw [List.length_map, writes_len, allSecs_len] at hvl
    have nsp : st ≠ p := ne_of hs2 hp2 (by intro z; cases z)
    have nsl : st ≠ l := fun z => by rw [z, hl] at hst; cases hst
    -- numbers
    refine ⟨_, rfl, p, C, dx, _, _, rfl, hp2, T.cl, T.n_generation, jf_g .., _, rfl, p, C, dx, _, _, rfl, hp2, T.cl, T.n_boot, jf_b .., _, rfl, p, C, dx, _, _, rfl, hp2, T.cl, T.n_records, jf_r .., l, _, rfl, .inl (SqL.of hl2), sz (by show 3 ≤ 1000000; decide), fun nl nnl => ?_⟩
    have s3 := same_new nnl (.lst [nV g, nV b, .int (rus.length : Int)])
    have hp3 := s3 _ _ hp2
    -- steps.extend(part_writes(..))
    refine ⟨_, rfl, .inl ⟨rfl, _, SqL.of (s3 _ _ hs2)⟩, _, rfl, _, rfl, p, C, dx, _, _, rfl, hp3, T.cl, T.n_end, jf_e .., _, rfl, st, _, rfl, .inl (SqL.of (s3 _ _ hs2)), _, _, rfl, rfl, _, rfl, ?_⟩
    refine ⟨x, r, e + vs'.length, g, b, rs.length + i, nl, rfl, Dp.kt (k2.trans (Same.kt s3)) (OkD.imm 2 okx) hxr, okx, by rw [upd_same, hrl2], hg, hb, by omega, fun H4 wl ws s4 nwl hwl dws => ?_⟩
    have hs4 := s4 _ _ (s3 _ _ hs2)
    have hwn := dws.length
    rw [List.length_map, writes_len, recSecs_len] at hwn
    refine ⟨st, wl, _, _, rfl, rfl, hs4, hwl, sz (by omega), ?_⟩
    have k5 : KT H4 (upd H4 st (.lst (vs' ++ ws))) := kt_lst hs4
    have hp5 : (upd H4 st (.lst (vs' ++ ws))) p = some (.ins C dx (jf b g s e l)) := by rw [upd_ne nsp.symm]; exact s4 _ _ hp3
    have hl5 : (upd H4 st (.lst (vs' ++ ws))) l = some (.lst rus) := by rw [upd_ne nsl.symm]; exact s4 _ _ (s3 _ _ hl2)
    -- self._records.append(record)
    refine ⟨_, rfl, p, C, dx, _, _, rfl, hp5, T.cl, T.n_records, jf_r .., .inl ⟨rfl, _, SqL.of hl5⟩, _, rfl, l, rus, x, rfl, rfl, hl5, szl (by omega), ?_⟩
    have k6 : KT (upd H4 st (.lst (vs' ++ ws))) (upd (upd H4 st (.lst (vs' ++ ws))) l (.lst (rus ++ [x]))) := kt_lst hl5
    have S34 := s3.trans s4
    have K : KT H2 (upd (upd H4 st (.lst (vs' ++ ws))) l (.lst (rus ++ [x]))) := (Same.kt S34).trans (k5.trans k6)
    have et : add.take (i + 1) = add.take i ++ [r] := by rw [List.take_add_one, hri]; rfl
    refine ⟨some x, some (.ref nl), vs' ++ ws, rus ++ [x], rfl, ((o2.trans (Off2.of S34)).q hst _).l _, k2.trans K, by rw [upd_ne nlp.symm]; exact hp5, upd_same, ?_, by rw [upd_ne nsl]; exact upd_same, ?_⟩
    · rw [et, ← List.append_assoc]
      have im : immAll (rs ++ add.take i) = true := recs_imm fun y hy => by
        rcases List.mem_append.mp hy with hy | hy
        · exact okr y hy
        · exact oka y (List.mem_of_mem_take hy)
      exact (DpAll.kt K im dr2).append (.cons (Dp.kt (k2.trans K) (OkD.imm 2 okx) hxr) .nil)
    · rw [allSecs_snoc hri, writes_append, allSecs_len, List.map_append, ← hvl]
      exact (DpAll.kt K (stp_imm _) ds2).append (DpAll.kt (k5.trans k6) (stp_imm _) dws)
  · rintro σ H2 ⟨u3, u4, vs', rus2, rfl, o2, k2, hp2, hl2, dr2, hs2, ds2⟩
    rw [hul, List.take_length] at dr2 ds2
    have hvl := ds2.length
    rw [List.length_map, writes_len, allSecs_len] at hvl
    have nsp : st ≠ p := ne_of hs2 hp2 (by intro z; cases z)
    have nsl : st ≠ l := fun z => by rw [z, hl] at hst; cases hst
    have imr2 : immAll (rs ++ add) = true := recs_imm fun y hy => by
      rcases List.mem_append.mp hy with hy | hy
      · exact okr y hy
      · exact oka y hy
    refine ⟨_, rfl, p, C, dx, _, _, rfl, hp2, T.cl, T.n_end, jf_e .., _, rfl, st, _, rfl, .inl (SqL.of hs2), _, _, rfl, rfl, _, rfl, p, C, dx, _, rfl, hp2, T.cl, T.n_end, (by show 5 < 1000; decide), ?_⟩
    have ee : ((e : Int) + (vs'.length : Int)) = ((e + need add : Nat) : Int) := by rw [hvl]; omega
    have ef : putF "_end" (V.int ((e : Int) + (vs'.length : Int))) (jf b g s e l) = jf b g s (e + need add) l := by
      rw [ee]
      exact jf_pe b g s e l _
    rw [show (fun i j => V.int (i + j)) (e : Int) (vs'.length : Int) = V.int ((e : Int) + (vs'.length : Int)) from rfl, ef]
    have k3 : KT H2 (upd H2 p (.ins C dx (jf b g s (e + need add) l))) := kt_ins hp2
    have ha3 : (upd H2 p (.ins C dx (jf b g s (e + need add) l))) a = some (.lst us) := by rw [upd_ne nap]; exact o2 a _ nap nal ha
    have hl3 : (upd H2 p (.ins C dx (jf b g s (e + need add) l))) l = some (.lst rus2) := by rw [upd_ne nlp]; exact hl2
    have hs3 : (upd H2 p (.ins C dx (jf b g s (e + need add) l))) st = some (.lst vs') := by rw [upd_ne nsp]; exact hs2
    have da3 : DpAll K (upd H2 p (.ins C dx (jf b g s (e + need add) l))) us add := DpAll.kt (k2.trans k3) ima hadd
    have dr3 := DpAll.kt k3 imr2 dr2
    have ds3 := DpAll.kt k3 (stp_imm _) ds2
    have o3 := o2.p (p := p) (l := l) (.ins C dx (jf b g s (e + need add) l))
    have hp3 := upd_same (H := H2) (a := p) (o := HO.ins C dx (jf b g s (e + need add) l))
    generalize upd H2 p (.ins C dx (jf b g s (e + need add) l)) = H3 at k3 ha3 hl3 hs3 da3 dr3 ds3 o3 hp3
    refine ⟨_, rfl, sz (Nat.zero_le _), fun m hm => ?_⟩
    have s4 := same_new hm (.lst [])
    refine ⟨.list add, .list [], .lst (SqL.of (s4 _ _ ha3)) (DpAll.same s4 da3), .lst (SqL.of upd_same) .nil, ?_, rfl, _, rfl, ?_⟩
    · exact shaped_recs oka
    cases add with
    | nil =>
      rw [show PyData.eqv (.list []) (.list []) = true from rfl]
      refine iteF ⟨_, rfl, ?_⟩
      refine q _ st vs' (o3.trans (Off2.of s4)) ⟨dx, rus2, s4 _ _ hp3, s4 _ _ hl3, DpAll.same s4 dr3⟩ hst (s4 _ _ hs3) ?_
      have e2 : appSteps e (allSecs g b rs.length []) (!([] : List PyData).isEmpty) = writes e (allSecs g b rs.length []) := by simp [appSteps]
      rw [e2]
      exact DpAll.same s4 ds3
    | cons y ys =>
      rw [show PyData.eqv (.list (y :: ys)) (.list []) = false from rfl]
      refine iteT ?_
      have hs4 := s4 _ _ hs3
      refine ⟨_, rfl, .inl ⟨rfl, _, SqL.of hs4⟩, sz (by show 1 ≤ 1000000; decide), fun t ht => ?_⟩
      have s5 := same_new ht (.tup [.str "sync"])
      have hs5 := s5 _ _ hs4
      refine ⟨st, vs', _, rfl, rfl, hs5, szl (by omega), ?_⟩
      refine ⟨_, rfl, ?_⟩
      have S5 := s4.trans s5
      have k6 : KT (upd (upd H3 m (.lst [])) t (.tup [.str "sync"])) (upd (upd (upd H3 m (.lst [])) t (.tup [.str "sync"])) st (.lst (vs' ++ [.ref t]))) := kt_lst hs5
      have e2 : appSteps e (allSecs g b rs.length (y :: ys)) (!(y :: ys).isEmpty) = writes e (allSecs g b rs.length (y :: ys)) ++ [.sync] := by simp [appSteps]
      refine q _ st _ ((o3.trans (Off2.of S5)).q hst _) ⟨dx, rus2, by rw [upd_ne nsp.symm]; exact S5 _ _ hp3, by rw [upd_ne nsl.symm]; exact S5 _ _ hl3, DpAll.kt ((Same.kt S5).trans k6) imr2 dr3⟩ hst upd_same ?_
      rw [e2, List.map_append]
      exact (DpAll.kt ((Same.kt S5).trans k6) (stp_imm _) ds3).append (.cons (.tup (k6.t (SqT.of upd_same)) (.cons (.str _) .nil)) .nil)
end
end Mj
set_option Elab.async false
set_option linter.all false
set_option maxRecDepth 100000
set_option maxHeartbeats 4000000
namespace Mj
open PySem L2
section
variable {P : Program} {w : World} {K : PySem.W.Frag} {mg : Str → Option Value} {base : Heap} {C : Addr} {f : Addr} {fd : FuncData}
/-! ## Journal.rewrite -/
def spJRew (K : PySem.W.Frag) (C : Addr) : Sp := fun vs H Q _ => ∃ (p l a : Addr) (b g s e : Nat) (us : List V) (rs add : List PyData), vs = [.ref p, .ref a] ∧ JAt K C H p l b g s e rs ∧ H a = some (.lst us) ∧ a ≠ l ∧ DpAll K H us add ∧ (∀ r ∈ add, OkD 2 r) ∧
  g + 1 < 16384 ∧ b < 16384 ∧ add.length < 1000 ∧ 2 ≤ s ∧ s ≤ e ∧ e + need add ≤ 1000000 ∧
  ∀ H' l' r vs', Off2 p l H H' → H l' = none → JAt K C H' p l' b (g + 1) (startOf s e add) (startOf s e add + need add) add → H r = none → H' r = some (.lst vs') →
    DpAll K H' vs' ((rewSteps (startOf s e add) (allSecs (g + 1) b 0 add) ((g + 1) % 2) (.head (g + 1) (startOf s e add) b)).map stpD) → Q (.ref r) H'
theorem ok_jrew (F : Fun K "rewrite" "Journal.rewrite" sJRew f fd) (T : Txt K mg C) (cC : C8.Cal P w K mg base 6 "check_records" (spChk K) []) (cPN : C8.Cal P w K mg base 7 "parts_needed" (spPN K) []) (cW : C8.Cal P w K mg base 7 "part_writes" (spPW K) [])
    (cP : C8.Cal P w K mg base 6 "pack" (spPack K) []) (cM : C8.Cal P w K mg base 2 "make_sector" (spMk K) []) : FnOk P w K mg base CX0 8 f fd ["self", "records"] (spJRew K C) := by
  refine F.ok scJRew (fun vs H Q E h => by obtain ⟨p, l, a, b, g, s, e, us, rs, add, rfl, _⟩ := h; rfl) (fun cdv A outer s H vs Q E hr h => ?_)
  obtain ⟨p, l, a, b, g, s, e, us, rs, add, rfl, ⟨dx, rus, hp, hl, hd⟩, ha, nal, hadd, oka, hg, hb, hn, h2s, hse, he, q⟩ := h
  have nd := scJRew.nd
  refine ⟨_, (pss_cons ((ps_expr ((C8.pe_c cC hr (by omega) (by rfl) (pa_cons (pv 1) pa_nil))))) (pss_cons ((ps_set (i := 2) nd rfl (Or.inl rfl) (pe_int))) (pss_cons ((ps_for PassesOwn.never rfl (pi_list (pv 1)) ((pg_name (i := 3) nd rfl (Or.inl rfl))) (pss_one ((ps_set (i := 2) nd rfl (Or.inl rfl) ((pe_op op_add (pv 2) ((C8.pe_c cPN hr (by omega) (by rfl) (pa_cons (pv 3) pa_nil)))))))))) (pss_cons ((ps_set (i := 4) nd rfl (Or.inl rfl) ((pe_fld (pv 0) rfl)))) (C8.pss_cut ((ps_if ((pt_cmpR op_le (pv 2) (pe_op op_sub ((pe_fld (pv 0) rfl)) ((C8.pe_gc (by rfl) T.c_FIRST))) (nomark _))) (pss_one ((ps_set (i := 4) nd rfl (Or.inl rfl) ((C8.pe_gc (by rfl) T.c_FIRST))))) pss_nil)) (pss_cons ((ps_set (i := 5) nd rfl (Or.inl rfl) ((pe_op op_add ((pe_fld (pv 0) rfl)) (pe_int))))) (pss_cons ((ps_set (i := 6) nd rfl (Or.inl rfl) (pe_lst pa_nil))) (pss_cons ((ps_for PassesOwn.never rfl ((pi_range1 (by rfl) T.b_range (pa_cons ((pe_callB call_len_seq (by rfl) T.b_len PySem.boot_len (pa_cons (pv 1) pa_nil))) pa_nil))) ((pg_name (i := 7) nd rfl (Or.inl rfl))) (pss_cons ((ps_set (i := 8) nd rfl (Or.inl rfl) ((pe_op op_add (pv 4) ((pe_callB call_len_seq (by rfl) T.b_len PySem.boot_len (pa_cons (pv 6) pa_nil))))))) (pss_one ((ps_expr ((pe_bm PySem.F.plainAttrs_list PySem.F.slot_list_extend PySem.F.type_list_extend mt_extend (pv 6) (pa_cons ((C8.pe_c cW hr (by omega) (by rfl) (pa_cons ((pe_ix ix_list (pv 1) (pv 7) (fun _ _ => rfl))) (pa_cons (pv 8) (pa_cons (pe_lst (pa_cons (pv 5) (pa_cons (pe_fld (pv 0) rfl) (pa_cons (pv 7) pa_nil)))) pa_nil))))) pa_nil))))))))) (pss_cons (ps_fld (pv 0) (pv 5) rfl) (pss_cons (ps_fld (pv 0) (pv 4) rfl) (pss_cons (ps_fld (pv 0) (pe_op op_add (pv 4) (pv 2)) rfl) (pss_cons (ps_fld (pv 0) (pe_callTy call_list_of (by rfl) T.b_list (by decide +kernel) (pa_cons (pv 1) pa_nil)) rfl) (pss_cons ((ps_expr ((pe_bm PySem.F.plainAttrs_list PySem.F.slot_list_append PySem.F.type_list_append mt_append (pv 6) (pa_cons (pe_tup (pa_cons pe_str pa_nil)) pa_nil))))) (pss_cons ((ps_set (i := 9) nd rfl (Or.inl rfl) ((C8.pe_c cP hr (by omega) (by rfl) (pa_cons ((pe_tup (pa_cons (pv 5) (pa_cons (pv 4) (pa_cons ((pe_fld (pv 0) rfl)) pa_nil))))) pa_nil))))) (pss_cons ((ps_expr ((pe_bm PySem.F.plainAttrs_list PySem.F.slot_list_append PySem.F.type_list_append mt_append (pv 6) (pa_cons ((pe_tup (pa_cons (pe_str) (pa_cons ((pe_op op_mod (pv 5) (pe_int))) (pa_cons ((C8.pe_c cM hr (by omega) (by rfl) (pa_cons ((C8.pe_gc (by rfl) T.c_HEAD)) (pa_cons (pv 9) pa_nil)))) pa_nil))))) pa_nil))))) (pss_cons ((ps_expr ((pe_bm PySem.F.plainAttrs_list PySem.F.slot_list_append PySem.F.type_list_append mt_append (pv 6) (pa_cons (pe_tup (pa_cons pe_str pa_nil)) pa_nil))))) (pss_one ((ps_ret (pv 6)))))))))))))))))))), ?_⟩
  have nlp : l ≠ p := ne_of hl hp (by intro z; cases z)
  have nap : a ≠ p := ne_of ha hp (by intro z; cases z)
  have hul := hadd.length
  have ima := recs_imm oka
  have hnd := need_le oka
  refine ⟨_, rfl, a, us, add, rfl, SqL.of ha, hadd, oka, ?_⟩
  -- needed
  refine ⟨_, rfl, a, rfl, ⟨_, SqL.of ha⟩, for_list (K := K) (a := a) (xs := us) (fun i σ H' => ∃ (u3 : Option V), σ = [some (.ref p), some (.ref a), some (nV (need (add.take i))), u3, none, none, none, none, none, none] ∧ Same H H')
    ⟨none, rfl, Same.refl H⟩ (fun i σ H' _ ⟨_, _, o⟩ => SqL.of (o _ _ ha)) ?_ ?_⟩
  · rintro i x σ H1 hi ⟨u3, rfl, s1⟩
    obtain ⟨r, hri, hxr⟩ := hadd.getv hi
    refine ⟨_, rfl, _, rfl, x, r, rfl, hxr.same s1, oka r (List.mem_of_getElem? hri), fun H2 s2 => ?_⟩
    refine ⟨_, _, rfl, rfl, some x, ?_, s1.trans s2⟩
    rw [need_take hri]
    rfl
  rintro σ H1 ⟨u3, rfl, s1⟩
  rw [hul, List.take_length]
  have hp1 := s1 _ _ hp
  refine ⟨_, rfl, p, C, dx, _, _, rfl, hp1, T.cl, T.n_end, jf_e .., ?_⟩
  -- start
  refine ⟨fun σ' H' => σ' = [some (.ref p), some (.ref a), some (nV (need add)), u3, some (nV (startOf s e add)), none, none, none, none, none] ∧ H' = H1, ?_, ?_⟩
  · refine ⟨_, rfl, _, rfl, p, C, dx, _, _, rfl, hp1, T.cl, T.n_start, jf_s .., _, _, rfl, rfl, _, _, rfl, rfl, _, rfl, ?_⟩
    refine ite2 (fun c => ?_) (fun c => ?_)
    · have c' := of_decide_eq_true c
      refine ⟨?_, rfl⟩
      unfold startOf
      rw [if_pos (by omega)]
      rfl
    · have c' := of_decide_eq_false (Bool.eq_false_iff.mpr c)
      refine ⟨?_, rfl⟩
      unfold startOf
      rw [if_neg (by omega)]
      rfl
  rintro σ' H' ⟨rfl, rfl⟩
  have hs2 := startOf_2 (add := add) h2s hse
  have hsb : startOf s e add ≤ e := by unfold startOf; split <;> omega
  generalize startOf s e add = st at hs2 hsb q ⊢
  have ha1 := s1 _ _ ha
  refine ⟨_, rfl, p, C, dx, _, _, rfl, hp1, T.cl, T.n_generation, jf_g .., _, _, rfl, rfl, ?_⟩
  refine ⟨sz (Nat.zero_le _), fun m hm => ?_⟩
  have s2 := same_new hm (.lst [])
  have hm0 := s1.free hm
  refine ⟨_, rfl, a, _, rfl, .inl (SqL.of (s2 _ _ ha1)), ((us.length : Nat) : Int), rfl, by omega, by omega, ?_⟩
  rw [show (((us.length : Nat) : Int)).toNat = us.length by omega]
  refine for_range (lo := 0) (n := us.length) (fun i σ H2 => ∃ (u7 u8 : Option V) (vs' : List V), σ = [some (.ref p), some (.ref a), some (nV (need add)), u3, some (nV st), some (nV (g + 1)), some (.ref m), u7, u8, none] ∧ Same H H2 ∧
      H2 m = some (.lst vs') ∧ DpAll K H2 vs' ((writes st (allSecs (g + 1) b 0 (add.take i))).map stpD))
    ⟨none, none, [], rfl, s1.trans s2, upd_same, .nil⟩ ?_ ?_
  · rintro i σ H2 hi ⟨u7, u8, vs', rfl, s3, hm2, ds2⟩
    obtain ⟨r, hri⟩ : ∃ r, add[i]? = some r := ⟨_, List.getElem?_eq_getElem (by omega)⟩
    obtain ⟨x, hxi, hxr⟩ := hadd.get hri
    have okx := oka r (List.mem_of_getElem? hri)
    have hil := (List.getElem?_eq_some_iff.mp hri).1
    have nt := need_take hri
    have ntl := need_take_le add (i + 1)
    have hvl := ds2.length
    rw [List.length_map, writes_len, allSecs_len] at hvl
    have e0 : (0 : Int) + (i : Int) = (i : Int) := by omega
    refine ⟨_, rfl, _, rfl, m, _, rfl, .inl (SqL.of hm2), _, _, rfl, rfl, ?_⟩
    refine ⟨_, rfl, .inl ⟨rfl, _, SqL.of hm2⟩, _, rfl, _, rfl, a, _, _, _, rfl, rfl, SqL.of (s3 _ _ ha), (by
      show atI us ((0 : Int) + (i : Int)) = some x
      rw [e0]
      exact atI_nat hxi), _, rfl, _, rfl, _, rfl, p, C, dx, _, _, rfl, s3 _ _ hp, T.cl, T.n_boot, jf_b .., _, rfl, sz (by show 3 ≤ 1000000; decide), fun nl nnl => ?_⟩
    have s4 := same_new nnl (.lst [nV (g + 1), nV b, .int (0 + (i : Int))])
    refine ⟨x, r, st + vs'.length, g + 1, b, i, nl, rfl, hxr.same (s3.trans s4), okx, by rw [upd_same, e0], hg, hb, by omega, fun H4 wl ws s5 nwl hwl dws => ?_⟩
    have hm4 := s5 _ _ (s4 _ _ hm2)
    have hwn := dws.length
    rw [List.length_map, writes_len, recSecs_len] at hwn
    refine ⟨m, wl, _, _, rfl, rfl, hm4, hwl, sz (by omega), ?_⟩
    have k5 : KT H4 (upd H4 m (.lst (vs' ++ ws))) := kt_lst hm4
    refine ⟨some (.int (0 + (i : Int))), some (.int ((st : Int) + (vs'.length : Int))), vs' ++ ws, rfl, same_mut (s3.trans (s4.trans s5)) hm0 _, upd_same, ?_⟩
    rw [allSecs_snoc hri, writes_append, allSecs_len, List.map_append, ← hvl, Nat.zero_add]
    exact (DpAll.kt k5 (stp_imm _) (DpAll.same (s4.trans s5) ds2)).append (DpAll.kt k5 (stp_imm _) dws)
  · rintro σ H2 ⟨u7, u8, vs', rfl, s3, hm2, ds2⟩
    rw [hul, List.take_length] at ds2
    have hvl := ds2.length
    rw [List.length_map, writes_len, allSecs_len] at hvl
    have hp2 := s3 _ _ hp
    have nmp : m ≠ p := ne_of hm2 hp2 (by intro z; cases z)
    have nml : m ≠ l := fun z => by rw [z, hl] at hm0; cases hm0
    have ha2 := s3 _ _ ha
    -- the four fields
    refine ⟨_, rfl, _, rfl, p, C, dx, _, rfl, hp2, T.cl, T.n_generation, (by show 5 < 1000; decide), ?_⟩
    rw [jf_pg b g s e l (g + 1)]
    refine ⟨_, rfl, _, rfl, p, C, dx, _, rfl, upd_same, T.cl, T.n_start, (by show 5 < 1000; decide), ?_⟩
    rw [jf_ps b (g + 1) s e l st, upd_upd]
    refine ⟨_, rfl, _, rfl, _, _, rfl, rfl, _, rfl, p, C, dx, _, rfl, upd_same, T.cl, T.n_end, (by show 5 < 1000; decide), ?_⟩
    rw [show (fun i j => V.int (i + j)) (st : Int) (need add : Int) = nV (st + need add) from rfl, jf_pe b (g + 1) st e l (st + need add), upd_upd]
    have ha3 : ∀ o, (upd H2 p o) a = some (.lst us) := fun o => by rw [upd_ne nap]; exact ha2
    refine ⟨_, rfl, a, us, rfl, .inl (SqL.of (ha3 _)), fun l' nl' => ?_⟩
    have hp3 := upd_same (H := H2) (a := p) (o := HO.ins C dx (jf b (g + 1) st (st + need add) l))
    have s4 := same_new nl' (.lst us)
    have nlp' : p ≠ l' := ne_of_none hp3 nl'
    have nl2 : H2 l' = none := by rw [upd_ne nlp'.symm] at nl'; exact nl'
    refine ⟨_, rfl, p, C, dx, _, rfl, s4 _ _ hp3, T.cl, T.n_records, (by show 5 < 1000; decide), ?_⟩
    rw [jf_pr b (g + 1) st (st + need add) l l']
    -- the heap behind
    have k3 : KT H2 (upd (upd (upd H2 p (.ins C dx (jf b (g + 1) st (st + need add) l))) l' (.lst us)) p (.ins C dx (jf b (g + 1) st (st + need add) l'))) := (kt_ins hp2).trans ((Same.kt s4).trans (kt_ins (s4 _ _ hp3)))
    have o3 : Off2 p l H (upd (upd (upd H2 p (.ins C dx (jf b (g + 1) st (st + need add) l))) l' (.lst us)) p (.ins C dx (jf b (g + 1) st (st + need add) l'))) := ((((Off2.of s3).p _).trans (Off2.of s4)).p _)
    have hp5 := upd_same (H := upd (upd H2 p (.ins C dx (jf b (g + 1) st (st + need add) l))) l' (.lst us)) (a := p) (o := HO.ins C dx (jf b (g + 1) st (st + need add) l'))
    have hl5 : (upd (upd (upd H2 p (.ins C dx (jf b (g + 1) st (st + need add) l))) l' (.lst us)) p (.ins C dx (jf b (g + 1) st (st + need add) l'))) l' = some (.lst us) := by rw [upd_ne nlp'.symm]; exact upd_same
    have hm5 : (upd (upd (upd H2 p (.ins C dx (jf b (g + 1) st (st + need add) l))) l' (.lst us)) p (.ins C dx (jf b (g + 1) st (st + need add) l'))) m = some (.lst vs') := by
      rw [upd_ne nmp]
      exact s4 _ _ (by rw [upd_ne nmp]; exact hm2)
    have dl5 := DpAll.kt ((Same.kt s3).trans k3) ima hadd
    have ds5 := DpAll.kt k3 (stp_imm _) ds2
    have nml' : m ≠ l' := fun z => by rw [z] at hm2; rw [hm2] at nl2; cases nl2
    have nl0 : H l' = none := s3.free nl2
    generalize (upd (upd (upd H2 p (.ins C dx (jf b (g + 1) st (st + need add) l))) l' (.lst us)) p (.ins C dx (jf b (g + 1) st (st + need add) l'))) = H5 at k3 o3 hp5 hl5 hm5 dl5 ds5
    -- steps.append(("sync",))
    refine ⟨_, rfl, .inl ⟨rfl, _, SqL.of hm5⟩, sz (by show 1 ≤ 1000000; decide), fun t1 nt1 => ?_⟩
    have s6 := same_new nt1 (.tup [.str "sync"])
    have hm6 := s6 _ _ hm5
    refine ⟨m, vs', _, rfl, rfl, hm6, szl (by omega), ?_⟩
    have k7 : KT (upd H5 t1 (.tup [.str "sync"])) (upd (upd H5 t1 (.tup [.str "sync"])) m (.lst (vs' ++ [.ref t1]))) := kt_lst hm6
    have K7 := (Same.kt s6).trans k7
    have ds7 := (DpAll.kt K7 (stp_imm _) ds5).append (.cons (.tup (k7.t (SqT.of upd_same)) (.cons (.str _) .nil)) .nil)
    have dl7 := DpAll.kt K7 ima dl5
    have hp7 : (upd (upd H5 t1 (.tup [.str "sync"])) m (.lst (vs' ++ [.ref t1]))) p = some (.ins C dx (jf b (g + 1) st (st + need add) l')) := by rw [upd_ne nmp.symm]; exact s6 _ _ hp5
    have hl7 : (upd (upd H5 t1 (.tup [.str "sync"])) m (.lst (vs' ++ [.ref t1]))) l' = some (.lst us) := by rw [upd_ne nml'.symm]; exact s6 _ _ hl5
    have o7 := (o3.trans (Off2.of s6)).q hm0 (.lst (vs' ++ [.ref t1]))
    have hm7 := upd_same (H := upd H5 t1 (.tup [.str "sync"])) (a := m) (o := HO.lst (vs' ++ [.ref t1]))
    generalize (upd (upd H5 t1 (.tup [.str "sync"])) m (.lst (vs' ++ [.ref t1]))) = H7 at k7 K7 ds7 dl7 hp7 hl7 o7 hm7
    -- payload
    refine ⟨_, rfl, _, rfl, _, rfl, p, C, dx, _, _, rfl, hp7, T.cl, T.n_boot, jf_b .., sz (by show 3 ≤ 1000000; decide), fun t2 nt2 => ?_⟩
    have s8 := same_new nt2 (.tup [nV (g + 1), nV st, nV b])
    obtain ⟨p1, p2⟩ := head_pack (g := g + 1) (s := st) (b := b) hg (by omega) hb
    refine ⟨_, headD (g + 1) st b, rfl, .tup (SqT.of upd_same) (.cons (.int _) (.cons (.int _) (.cons (.int _) .nil))), p2, fun H9 pl s9 npl hpl => ?_⟩
    rw [p1] at hpl
    have hm9 := s9 _ _ (s8 _ _ hm7)
    refine ⟨_, rfl, .inl ⟨rfl, _, SqL.of hm9⟩, _, rfl, _, _, rfl, rfl, (by show (0 : Int) < 2; decide), _, rfl, 1, pl, _, rfl, hpl, headD_len hg (by omega) hb, fun H10 sc s10 nsc hsc => ?_⟩
    refine ⟨sz (by show 3 ≤ 1000000; decide), fun t3 nt3 => ?_⟩
    have s11 := same_new nt3 (.tup [.str "write", .int (((g + 1 : Nat) : Int) % 2), .ref sc])
    have hm11 := s11 _ _ (s10 _ _ hm9)
    have vl7 := ds7.length
    refine ⟨m, _, _, rfl, rfl, hm11, szl (by rw [vl7]; simp [writes_len, allSecs_len]; omega), ?_⟩
    have S11 := s8.trans (s9.trans (s10.trans s11))
    have k12 : KT (upd H10 t3 (.tup [.str "write", .int (((g + 1 : Nat) : Int) % 2), .ref sc])) (upd (upd H10 t3 (.tup [.str "write", .int (((g + 1 : Nat) : Int) % 2), .ref sc])) m (.lst (vs' ++ [.ref t1] ++ [.ref t3]))) := kt_lst hm11
    have K12 := (Same.kt S11).trans k12
    have eg : (((g + 1 : Nat) : Int) % 2) = (((g + 1) % 2 : Nat) : Int) := by omega
    have dt3 : Dp K (upd H10 t3 (.tup [.str "write", .int (((g + 1 : Nat) : Int) % 2), .ref sc])) (.ref t3) (stpD (.w ((g + 1) % 2) (.head (g + 1) st b))) := by
      show Dp K _ _ (.tuple [.str "write", .int (((g + 1) % 2 : Nat) : Int), secD (.head (g + 1) st b)])
      rw [eg]
      exact .tup (SqT.of upd_same) (.cons (.str _) (.cons (.int _) (.cons (dp_of_ints (SqT.of (by rw [← eg]; exact s11 _ _ hsc))) .nil)))
    have im7 : immAll ((writes st (allSecs (g + 1) b 0 add)).map stpD ++ [.tuple [.str "sync"]]) = true := by
      have := stp_imm (writes st (allSecs (g + 1) b 0 add) ++ [.sync])
      rw [List.map_append] at this
      exact this
    have ds12 := (DpAll.kt K12 im7 ds7).append (.cons (Dp.kt k12 (by have := stp_imm [.w ((g + 1) % 2) (.head (g + 1) st b)]; exact (Bool.and_eq_true_iff.mp this).1) dt3) .nil)
    have dl12 := DpAll.kt K12 ima dl7
    have hp12 : (upd (upd H10 t3 (.tup [.str "write", .int (((g + 1 : Nat) : Int) % 2), .ref sc])) m (.lst (vs' ++ [.ref t1] ++ [.ref t3]))) p = some (.ins C dx (jf b (g + 1) st (st + need add) l')) := by rw [upd_ne nmp.symm]; exact S11 _ _ hp7
    have hl12 : (upd (upd H10 t3 (.tup [.str "write", .int (((g + 1 : Nat) : Int) % 2), .ref sc])) m (.lst (vs' ++ [.ref t1] ++ [.ref t3]))) l' = some (.lst us) := by rw [upd_ne nml'.symm]; exact S11 _ _ hl7
    have o12 := (o7.trans (Off2.of S11)).q hm0 (.lst (vs' ++ [.ref t1] ++ [.ref t3]))
    have hm12 := upd_same (H := upd H10 t3 (.tup [.str "write", .int (((g + 1 : Nat) : Int) % 2), .ref sc])) (a := m) (o := HO.lst (vs' ++ [.ref t1] ++ [.ref t3]))
    generalize (upd (upd H10 t3 (.tup [.str "write", .int (((g + 1 : Nat) : Int) % 2), .ref sc])) m (.lst (vs' ++ [.ref t1] ++ [.ref t3]))) = H12 at k12 K12 ds12 dl12 hp12 hl12 o12 hm12
    -- steps.append(("sync",))
    refine ⟨_, rfl, .inl ⟨rfl, _, SqL.of hm12⟩, sz (by show 1 ≤ 1000000; decide), fun t4 nt4 => ?_⟩
    have s13 := same_new nt4 (.tup [.str "sync"])
    have hm13 := s13 _ _ hm12
    have vl12 := ds12.length
    refine ⟨m, _, _, rfl, rfl, hm13, szl (by rw [vl12]; simp [writes_len, allSecs_len]; omega), ?_⟩
    have k14 : KT (upd H12 t4 (.tup [.str "sync"])) (upd (upd H12 t4 (.tup [.str "sync"])) m (.lst (vs' ++ [.ref t1] ++ [.ref t3] ++ [.ref t4]))) := kt_lst hm13
    have K14 := (Same.kt s13).trans k14
    have im12 : immAll ((writes st (allSecs (g + 1) b 0 add)).map stpD ++ [.tuple [.str "sync"]] ++ [stpD (.w ((g + 1) % 2) (.head (g + 1) st b))]) = true := by
      have := stp_imm (writes st (allSecs (g + 1) b 0 add) ++ [.sync] ++ [.w ((g + 1) % 2) (.head (g + 1) st b)])
      rw [List.map_append, List.map_append] at this
      exact this
    refine ⟨_, rfl, ?_⟩
    refine q _ l' m _ ((o12.trans (Off2.of s13)).q hm0 _) nl0 ⟨dx, us, by rw [upd_ne nmp.symm]; exact s13 _ _ hp12, by rw [upd_ne nml'.symm]; exact s13 _ _ hl12, DpAll.kt K14 ima dl12⟩ hm0 upd_same ?_
    have fin := (DpAll.kt K14 im12 ds12).append (DpAll.cons (.tup (k14.t (SqT.of upd_same)) (.cons (.str "sync") .nil)) .nil)
    unfold rewSteps
    rw [List.map_append]
    simp only [List.append_assoc] at fin
    simp only [List.append_assoc]
    exact fin
end
end Mj
set_option Elab.async false
set_option linter.all false
set_option maxRecDepth 100000
set_option maxHeartbeats 4000000
namespace L2
open PySem PySem.Spec PyProof.Rows
def rMulS : R2 := fun x y H Q => ∃ i j, x = .str i ∧ y = .int j ∧ 1 ≤ j ∧ j ≤ 1000 ∧ i.length ≤ 1000 ∧ Q (.str (Txt.mul i j)) H
theorem op_mulS {X : Cx} : OpR X (binaryOp .Mult) rMulS := by
  intro pins s σ H x y v u Q I rx ry h
  obtain ⟨i, j, rfl, rfl, h1, h2, h3, q⟩ := h
  obtain ⟨t, rfl⟩ := rx
  obtain ⟨t', rfl⟩ := ry
  refine PySem.SB.mul ?_ (fun t2 k => ⟨.str (Txt.mul i j), H, I.tok k, ⟨t2, rfl⟩, q⟩)
  refine ⟨?_, fun _ _ => ?_, fun _ _ => ?_⟩
  · rw [Bool.or_eq_false_iff]
    exact ⟨decide_eq_false (by omega), decide_eq_false (by omega)⟩
  · have : (1000 : Int) ≤ (2 ^ 63 - 1) / j := by
      apply Int.le_ediv_of_mul_le (by omega)
      omega
    omega
  · have : i.length * j.toNat ≤ 1000 * 1000 := Nat.mul_le_mul h3 (by omega)
    show decide _ = false
    refine decide_eq_false ?_
    have e : sizeLine = 16777216 := by decide
    omega
end L2
namespace Mj
open PySem L2
theorem mul_cps : ∀ (n : Nat) (x : Str), ((List.replicate n x.cps).foldl (· ++ ·) #[]).toList = (List.replicate n x.cps.toList).flatten := by
  intro n x
  have gen : ∀ (n : Nat) (a : Array Nat), ((List.replicate n x.cps).foldl (· ++ ·) a).toList = a.toList ++ (List.replicate n x.cps.toList).flatten := by
    intro n
    induction n with
    | zero => intro a; simp
    | succ n ih => intro a; rw [List.replicate_succ, List.foldl_cons, ih, List.replicate_succ, List.flatten_cons]; simp
  rw [gen]
  simp
theorem mul_ok {x : Str} {n : Int} (h1 : 1 ≤ n) (h30 : n ≤ 30) (hl : x.length ≤ 6) (hc : ∀ c ∈ x.cps.toList, okC c) : (Txt.mul x n).length ≤ 200 ∧ ∀ c ∈ (Txt.mul x n).cps.toList, okC c := by
  unfold Txt.mul
  rw [if_neg (by omega)]
  split
  · exact ⟨by omega, hc⟩
  · have e := mul_cps n.toNat x
    refine ⟨?_, ?_⟩
    · show Array.size _ ≤ 200
      rw [← Array.length_toList, e]
      have : ∀ m : Nat, ((List.replicate m x.cps.toList).flatten).length = m * x.length := fun m => by
        induction m with
        | zero => simp
        | succ m ih => rw [List.replicate_succ, List.flatten_cons, List.length_append, ih, Nat.add_mul]; simp [Str.length]; omega
      rw [this]
      have : n.toNat * x.length ≤ 30 * 6 := Nat.mul_le_mul (by omega) hl
      omega
    · intro c hcm
      rw [show (Str.cps ⟨(List.replicate n.toNat x.cps).foldl (· ++ ·) #[]⟩).toList = _ from e] at hcm
      obtain ⟨l, hl1, hl2⟩ := List.mem_flatten.mp hcm
      rw [(List.mem_replicate.mp hl1).2] at hl2
      exact hc c hl2
def InB (ds : List Int) : Prop := ∀ d ∈ ds, 0 ≤ d ∧ d < 997
theorem InB.nil : InB [] := fun d hd => nomatch hd
theorem InB.snoc {ds : List Int} {d : Int} (h : InB ds) (h1 : 0 ≤ d) (h2 : d < 997) : InB (ds ++ [d]) := fun x hx => by
  rcases List.mem_append.mp hx with hx | hx
  · exact h x hx
  · rw [List.mem_singleton.mp hx]; exact ⟨h1, h2⟩
theorem InB.get {ds : List Int} (h : InB ds) {i : Nat} (hi : i < ds.length) : ∃ d, ds[i]? = some d ∧ 0 ≤ d ∧ d < 997 := ⟨ds[i], List.getElem?_eq_getElem hi, h _ (List.getElem_mem hi)⟩
section
variable {P : Program} {w : World} {K : PySem.W.Frag} {mg : Str → Option Value} {base : Heap} {C : Addr} {f : Addr} {fd : FuncData}
/-! ## _law_draws -/
def spDraws (K : PySem.W.Frag) : Sp := fun vs H Q _ => ∃ (a : Addr) (ns : List Int), vs = [.ref a, .int 600] ∧ SqL K H a (ns.map V.int) ∧ ns.length ≤ 63 ∧
  ∀ H' r ds, Same H H' → H r = none → H' r = some (.lst (ds.map V.int)) → ds.length = 600 → InB ds → Q (.ref r) H'
theorem ok_draws (F : Fun K "_law_draws" "_law_draws" sDraws f fd) (T : Txt K mg C) : FnOk P w K mg base CX0 1 f fd ["_law_script", "_law_many"] (spDraws K) := by
  refine F.ok scDraws (fun vs H Q E h => by obtain ⟨a, ns, rfl, _⟩ := h; rfl) (fun cdv A outer s H vs Q E hr h => ?_)
  obtain ⟨a, ns, rfl, hS, hlen, q⟩ := h
  have nd := scDraws.nd
  refine ⟨_, (pss_cons ((ps_set (i := 2) nd rfl (Or.inl rfl) (pe_lst pa_nil))) (pss_cons ((ps_set (i := 3) nd rfl (Or.inl rfl) (pe_int))) (pss_cons ((ps_for PassesOwn.never rfl ((pi_range1 (by rfl) T.b_range (pa_cons ((pe_callB call_len_seq (by rfl) T.b_len PySem.boot_len (pa_cons (pv 0) pa_nil))) pa_nil))) ((pg_name (i := 4) nd rfl (Or.inl rfl))) (pss_cons ((ps_set (i := 5) nd rfl (Or.inl rfl) ((pe_callB call_abs (by rfl) T.b_abs (by decide +kernel) (pa_cons ((pe_callTy call_int1 (by rfl) T.b_int (by decide +kernel) (pa_cons ((pe_ix ix_list (pv 0) (pv 4) (fun _ _ => rfl))) pa_nil))) pa_nil))))) (pss_cons ((ps_set (i := 3) nd rfl (Or.inl rfl) ((pe_op op_mod ((pe_callTy call_int1 (by rfl) T.b_int (by decide +kernel) (pa_cons ((pe_op op_add ((pe_op op_add ((pe_op op_mul (pv 3) (pe_int))) ((pe_op op_mod (pv 5) (pe_int))))) (pv 4))) pa_nil))) (pe_int))))) (pss_cons ((ps_set (i := 6) nd rfl (Or.inl rfl) (pe_int))) (C8.pss_cut ((ps_if ((pt_cmpR op_ge (pv 5) (pe_op op_pow pe_int pe_int) (nomark _))) (pss_one ((ps_set (i := 6) nd rfl (Or.inl rfl) (pv 5)))) (pss_cons ((ps_expr ((pe_bm PySem.F.plainAttrs_list PySem.F.slot_list_append PySem.F.type_list_append mt_append (pv 2) (pa_cons ((pe_op op_mod (pv 5) (pe_int))) pa_nil))))) (pss_one ((ps_expr ((pe_bm PySem.F.plainAttrs_list PySem.F.slot_list_append PySem.F.type_list_append mt_append (pv 2) (pa_cons ((pe_op op_mod ((pe_op op_mod ((pe_callTy call_int1 (by rfl) T.b_int (by decide +kernel) (pa_cons ((pe_op op_add ((pe_op op_mul (pv 3) (pe_int))) (pe_int))) pa_nil))) (pe_int))) (pe_int))) pa_nil))))))))) (pss_one ((ps_for PassesOwn.never rfl ((pi_range1 (by rfl) T.b_range (pa_cons (pe_int) pa_nil))) ((pg_name (i := 7) nd rfl (Or.inl rfl))) (pss_one ((ps_if ((pt_cmpR op_gt (pv 6) pe_int (nomark _))) (pss_cons ((ps_expr ((pe_bm PySem.F.plainAttrs_list PySem.F.slot_list_append PySem.F.type_list_append mt_append (pv 2) (pa_cons ((pe_op op_mod ((pe_callTy call_int1 (by rfl) T.b_int (by decide +kernel) (pa_cons (pv 6) pa_nil))) (pe_int))) pa_nil))))) (pss_one ((ps_set (i := 6) nd rfl (Or.inl rfl) ((pe_op op_fdiv (pv 6) (pe_int))))))) pss_nil)))))))))))) (pss_cons ((ps_for PassesOwn.never rfl ((pi_range1 (by rfl) T.b_range (pa_cons (pv 1) pa_nil))) ((pg_name (i := 4) nd rfl (Or.inl rfl))) (pss_cons ((ps_set (i := 3) nd rfl (Or.inl rfl) ((pe_op op_mod ((pe_callTy call_int1 (by rfl) T.b_int (by decide +kernel) (pa_cons ((pe_op op_add ((pe_op op_add ((pe_op op_mul (pv 3) (pe_int))) (pv 4))) (pe_int))) pa_nil))) (pe_int))))) (pss_one ((ps_expr ((pe_bm PySem.F.plainAttrs_list PySem.F.slot_list_append PySem.F.type_list_append mt_append (pv 2) (pa_cons ((pe_op op_mod ((pe_callTy call_int1 (by rfl) T.b_int (by decide +kernel) (pa_cons (pv 3) pa_nil))) (pe_int))) pa_nil))))))))) (pss_one ((ps_ret (pe_slice sl_list (pv 2) po_none (po_some (pv 1)))))))))), ?_⟩
  refine ⟨sz (Nat.zero_le _), fun l hl => ?_⟩
  have hnl : (ns.map V.int).length = ns.length := List.length_map _
  have s1 := same_new hl (.lst [])
  refine ⟨_, rfl, a, _, rfl, .inl (s1.seq hS), (((ns.map V.int).length : Nat) : Int), rfl, by omega, by omega, ?_⟩
  rw [show ((((ns.map V.int).length : Nat) : Int)).toNat = ns.length by omega]
  refine for_range (lo := 0) (n := ns.length) (fun i σ H' => ∃ (m : Int) (u4 u5 u6 u7 : Option V) (ds : List Int), σ = [some (.ref a), some (.int 600), some (.ref l), some (.int m), u4, u5, u6, u7] ∧ Same H H' ∧ H' l = some (.lst (ds.map V.int)) ∧ InB ds ∧ ds.length ≤ 62 * i ∧ 0 ≤ m ∧ m < 65537)
    ⟨7, none, none, none, none, [], rfl, s1, upd_same, InB.nil, Nat.le_refl _, by decide, by decide⟩ ?_ ?_
  · rintro i σ H2 hi ⟨m, u4, u5, u6, u7, ds, rfl, s2, h2, b2, l2, m0, m1⟩
    obtain ⟨z, hz⟩ : ∃ z, ns[i]? = some z := ⟨_, List.getElem?_eq_getElem hi⟩
    have e0 : (0 : Int) + (i : Int) = (i : Int) := by omega
    refine ⟨_, rfl, _, rfl, a, _, _, _, rfl, rfl, s2.seq hS, (by
      show atI (ns.map V.int) ((0 : Int) + (i : Int)) = some (.int z)
      rw [e0]
      exact at_ints hz), .inl ⟨_, rfl, _, rfl, ?_⟩⟩
    generalize hcell : (if z < 0 then -z else z) = cell
    have hc0 : 0 ≤ cell := by rw [← hcell]; split <;> omega
    refine ⟨_, rfl, _, _, rfl, rfl, .inl ⟨by omega, by omega⟩, _, rfl, _, _, rfl, rfl, (by show (0 : Int) < 1000003; decide), _, _, rfl, rfl, _, rfl, _, _, rfl, rfl, .inl ⟨_, rfl, _, _, rfl, rfl, (by show (0 : Int) < 65537; decide), ?_⟩⟩
    generalize hm' : (m * 48271 + cell % 1000003 + (0 + (i : Int))) % 65537 = m'
    have hm0 : 0 ≤ m' := by rw [← hm']; omega
    have hm1 : m' < 65537 := by rw [← hm']; omega
    have hgoal : (fun i j => V.int (i % j)) (m * 48271 + cell % 1000003 + (0 + (i : Int))) 65537 = V.int m' := by rw [← hm']
    refine ⟨fun σ' H' => ∃ (rest : Int) (ds' : List Int), σ' = [some (.ref a), some (.int 600), some (.ref l), some (.int m'), some (.int (0 + (i : Int))), some (.int cell), some (.int rest), u7] ∧ Same H H' ∧ H' l = some (.lst (ds'.map V.int)) ∧ InB ds' ∧ ds'.length ≤ 62 * i + 2 ∧ 0 ≤ rest, ?_, ?_⟩
    · refine ⟨_, rfl, _, _, rfl, rfl, ⟨by decide, by decide, by decide⟩, _, _, rfl, rfl, _, rfl, ?_⟩
      refine ite2 (fun c => ?_) (fun c => ?_)
      · exact ⟨_, rfl, cell, ds, by rw [← hm']; rfl, s2, h2, b2, by omega, hc0⟩
      · refine ⟨_, rfl, .inl ⟨rfl, _, SqL.of h2⟩, _, rfl, _, _, rfl, rfl, (by show (0 : Int) < 997; decide), l, _, _, rfl, rfl, h2, szl (by rw [List.length_map]; omega), ?_⟩
        have d1 : InB (ds ++ [cell % 997]) := b2.snoc (by omega) (by omega)
        refine ⟨_, rfl, .inl ⟨rfl, _, SqL.of upd_same⟩, _, rfl, _, _, rfl, rfl, .inr (by decide), _, _, rfl, rfl, .inl ⟨_, rfl, _, _, rfl, rfl, (by show (0 : Int) < 65521; decide), _, _, rfl, rfl, (by show (0 : Int) < 997; decide), l, _, _, rfl, rfl, upd_same, szl (by simp; omega), ?_⟩⟩
        refine ⟨0, ds ++ [cell % 997] ++ [(((m * 48271 + cell % 1000003 + (0 + (i : Int))) % 65537 * 69621 + 5) % 65521 % 997)], by rw [← hm']; rfl, ?_, ?_, d1.snoc (by omega) (by omega), by simp; omega, Int.le_refl _⟩
        · rw [upd_upd]
          exact same_mut s2 hl _
        · rw [upd_upd, upd_same, List.map_append, List.map_append]
          rfl
    · rintro σ' H3 ⟨rest, ds', rfl, s3, h3, b3, l3, r0⟩
      refine ⟨60, rfl, by decide, by decide, for_range (lo := 0) (n := 60) (fun j σ H' => ∃ (rest : Int) (u7 : Option V) (ds' : List Int), σ = [some (.ref a), some (.int 600), some (.ref l), some (.int m'), some (.int (0 + (i : Int))), some (.int cell), some (.int rest), u7] ∧ Same H H' ∧ H' l = some (.lst (ds'.map V.int)) ∧ InB ds' ∧ ds'.length ≤ 62 * i + 2 + j ∧ 0 ≤ rest)
        ⟨rest, u7, ds', rfl, s3, h3, b3, l3, r0⟩ ?_ ?_⟩
      · rintro j σ H4 hj ⟨rest, u7, ds', rfl, s4, h4, b4, l4, r0⟩
        refine ⟨_, rfl, _, _, rfl, rfl, _, rfl, ?_⟩
        refine ite2 (fun c => ?_) (fun c => ?_)
        · refine ⟨_, rfl, .inl ⟨rfl, _, SqL.of h4⟩, _, rfl, .inl ⟨_, rfl, _, _, rfl, rfl, (by show (0 : Int) < 997; decide), l, _, _, rfl, rfl, h4, szl (by rw [List.length_map]; omega), ?_⟩⟩
          refine ⟨_, rfl, _, _, rfl, rfl, ⟨by decide, by decide⟩, ?_⟩
          refine ⟨rest / 997, some (.int (0 + (j : Int))), ds' ++ [rest % 997], rfl, same_mut s4 hl _, by rw [upd_same, List.map_append]; rfl, b4.snoc (by omega) (by omega), by simp; omega, by omega⟩
        · exact ⟨rest, _, ds', rfl, s4, h4, b4, by omega, r0⟩
      · rintro σ H4 ⟨rest, u7, ds', rfl, s4, h4, b4, l4, r0⟩
        exact ⟨m', _, _, _, _, ds', rfl, s4, h4, b4, by omega, hm0, hm1⟩
  · rintro σ H2 ⟨m, u4, u5, u6, u7, ds, rfl, s2, h2, b2, l2, m0, m1⟩
    refine ⟨_, rfl, 600, rfl, by decide, by decide, for_range (lo := 0) (n := 600) (fun i σ H' => ∃ (m : Int) (u4 : Option V) (ds : List Int), σ = [some (.ref a), some (.int 600), some (.ref l), some (.int m), u4, u5, u6, u7] ∧ Same H H' ∧ H' l = some (.lst (ds.map V.int)) ∧ InB ds ∧ ds.length ≤ 62 * 63 + i ∧ i ≤ ds.length ∧ 0 ≤ m ∧ m < 65537)
      ⟨m, u4, ds, rfl, s2, h2, b2, by omega, Nat.zero_le _, m0, m1⟩ ?_ ?_⟩
    · rintro i σ H3 hi ⟨m, u4, ds, rfl, s3, h3, b3, l3, g3, m0, m1⟩
      refine ⟨_, rfl, _, _, rfl, rfl, .inl ⟨by omega, by omega⟩, _, rfl, _, _, rfl, rfl, _, _, rfl, rfl, .inl ⟨_, rfl, _, _, rfl, rfl, (by show (0 : Int) < 65537; decide), ?_⟩⟩
      generalize hm' : (m * 16807 + (0 + (i : Int)) + 1) % 65537 = m'
      have hm0 : 0 ≤ m' := by rw [← hm']; omega
      have hm1 : m' < 65537 := by rw [← hm']; omega
      refine ⟨_, rfl, .inl ⟨rfl, _, SqL.of h3⟩, _, rfl, .inl ⟨_, rfl, _, _, rfl, rfl, (by show (0 : Int) < 997; decide), l, _, _, rfl, rfl, h3, szl (by rw [List.length_map]; omega), ?_⟩⟩
      refine ⟨m', some (.int (0 + (i : Int))), ds ++ [(m * 16807 + (0 + (i : Int)) + 1) % 65537 % 997], by rw [← hm']; rfl, same_mut s3 hl _, by rw [upd_same, List.map_append]; rfl, b3.snoc (by omega) (by omega), by simp; omega, by simp; omega, hm0, hm1⟩
    · rintro σ H3 ⟨m, u4, ds, rfl, s3, h3, b3, l3, g3, m0, m1⟩
      refine ⟨_, rfl, _, rfl, 600, rfl, l, _, rfl, SqL.of h3, fun r nr => ?_⟩
      have c : cutV (ds.map V.int) none (some 600) = (ds.take 600).map V.int := by
        have := cut_to (ds.map V.int) 600
        rw [show ((600 : Nat) : Int) = 600 from rfl] at this
        rw [this, List.map_take]
      rw [c]
      refine q _ r (ds.take 600) (s3.trans (same_new nr _)) (s3.free nr) upd_same (by rw [List.length_take]; omega) fun d hd => b3 d (List.mem_of_mem_take hd)
end
end Mj
set_option Elab.async false
set_option linter.all false
set_option maxRecDepth 100000
set_option maxHeartbeats 4000000
namespace Mj
open PySem L2
def menu : List Nat := [97, 98, 32, 99, 47, 45, 57, 90]
theorem menu_cps : (Str.ofString "ab c/-9Z").cps.toList = menu := by decide +kernel
theorem menu_len : (Str.ofString "ab c/-9Z").length = 8 := by decide +kernel
theorem menu_ok : ∀ c ∈ menu, okC c := by unfold menu okC; decide
theorem one_cps (cs : List Nat) : (⟨cs.toArray⟩ : Str).cps.toList = cs := by simp
section
variable {P : Program} {w : World} {K : PySem.W.Frag} {mg : Str → Option Value} {base : Heap} {C : Addr} {f : Addr} {fd : FuncData}
/-! ## _law_record -/
def spRecord (K : PySem.W.Frag) : Sp := fun vs H Q _ => ∃ (a : Addr) (ds : List Int), vs = [.ref a] ∧ H a = some (.lst (ds.map V.int)) ∧ ds.length = 8 ∧ InB ds ∧ ∀ H' v r, Same H H' → OkD 2 r → Dp K H' v r → Q v H'
theorem ok_record (F : Fun K "_law_record" "_law_record" sRecord f fd) (T : Txt K mg C) : FnOk P w K mg base CX0 1 f fd ["_law_draws_here"] (spRecord K) := by
  refine F.ok scRecord (fun vs H Q E h => by obtain ⟨a, ds, rfl, _⟩ := h; rfl) (fun cdv A outer s H vs Q E hr h => ?_)
  obtain ⟨a, ds, rfl, ha, hl, hb, q⟩ := h
  have nd := scRecord.nd
  refine ⟨_, (pss_cons ((ps_set (i := 1) nd rfl (Or.inl rfl) ((pe_op op_mod ((pe_callTy call_int1 (by rfl) T.b_int (by decide +kernel) (pa_cons ((pe_ix ix_list (pv 0) (pe_int) (fun _ _ => rfl))) pa_nil))) (pe_int))))) (pss_cons ((ps_if ((pt_cmpR op_eq (pv 1) pe_int (nomark _))) (pss_one ((ps_ret (pe_non)))) pss_nil)) (pss_cons ((ps_if ((pt_cmpR op_eq (pv 1) pe_int (nomark _))) (pss_one ((ps_ret ((pe_op op_add ((pe_op op_mul ((pe_ix ix_list (pv 0) (pe_int) (fun _ _ => rfl))) (pe_int))) ((pe_ix ix_list (pv 0) (pe_int) (fun _ _ => rfl)))))))) pss_nil)) (pss_cons ((ps_set (i := 2) nd rfl (Or.inl rfl) (pe_join pe_str (pe_lc (own := [("_law_draw", 3)]) (g := gName 3) (tt := tYes) rfl nd (pi_list (pe_slice sl_list (pv 0) (po_some pe_int) (po_some (pe_op op_add (pe_int) ((pe_op op_mod ((pe_callTy call_int1 (by rfl) T.b_int (by decide +kernel) (pa_cons ((pe_ix ix_list (pv 0) (pe_int) (fun _ _ => rfl))) pa_nil))) (pe_int))))))) (blkOk_by (own := [("_law_draw", 3)]) (N := ["_law_draws_here", "_law_kind", "_law_word", "_law_draw"]) (sc := defScope sRecord) (by decide +kernel)) (fun _ _ _ _ _ => (pg_name (i := 3) nd rfl (Or.inl rfl))) (fun _ _ _ _ _ => pts_nil) (fun _ _ _ _ _ => (pe_ix ix_str (pe_str) ((pe_op op_mod ((pe_callTy call_int1 (by rfl) T.b_int (by decide +kernel) (pa_cons (pv 3) pa_nil))) (pe_int))) (fun _ _ => rfl))))))) (C8.pss_cut ((ps_if ((pt_cmpR op_eq (pv 1) pe_int (nomark _))) (pss_one ((ps_set (i := 2) nd rfl (Or.inl rfl) (pe_op op_mulS (pv 2) (pe_op op_add (pe_int) ((pe_op op_mod ((pe_callTy call_int1 (by rfl) T.b_int (by decide +kernel) (pa_cons ((pe_ix ix_list (pv 0) (pe_int) (fun _ _ => rfl))) pa_nil))) (pe_int)))))))) pss_nil)) (pss_cons ((ps_if ((pt_cmpR op_lt (pv 1) pe_int (nomark _))) (pss_one ((ps_ret (pv 2)))) pss_nil)) (pss_one ((ps_ret (pe_tup (pa_cons (pv 2) (pa_cons (pe_ix ix_list (pv 0) (pe_int) (fun _ _ => rfl)) (pa_cons (pe_tup (pa_cons ((pe_op op_sub ((pe_ix ix_list (pv 0) (pe_int) (fun _ _ => rfl))) (pe_int))) (pa_cons (pv 2) pa_nil))) (pa_cons (pe_cmpR op_eq (pe_op op_mod ((pe_ix ix_list (pv 0) (pe_int) (fun _ _ => rfl))) (pe_int)) pe_int (nomark _)) pa_nil)))))))))))))), ?_⟩
  have g : ∀ i : Nat, i < 8 → ∃ d, atI (ds.map V.int) (i : Int) = some (.int d) ∧ 0 ≤ d ∧ d < 997 := fun i hi => by
    obtain ⟨d, h1, h2, h3⟩ := hb.get (i := i) (by omega)
    exact ⟨d, at_ints h1, h2, h3⟩
  obtain ⟨d0, g0, p0, q0⟩ := g 0 (by decide)
  obtain ⟨d1, g1, p1, q1⟩ := g 1 (by decide)
  obtain ⟨d2, g2, p2, q2⟩ := g 2 (by decide)
  obtain ⟨d3, g3, p3, q3⟩ := g 3 (by decide)
  obtain ⟨d4, g4, p4, q4⟩ := g 4 (by decide)
  obtain ⟨d5, g5, p5, q5⟩ := g 5 (by decide)
  obtain ⟨d6, g6, p6, q6⟩ := g 6 (by decide)
  have hS := SqL.of (K := K) ha
  refine ⟨_, rfl, a, _, _, _, rfl, rfl, hS, g0, .inl ⟨_, rfl, _, _, rfl, rfl, (by show (0 : Int) < 8; decide), ?_⟩⟩
  refine ⟨_, rfl, rfl, _, rfl, ?_⟩
  refine ite2 (fun _ => ?_) (fun _ => ?_)
  · exact q H .non .none (Same.refl H) OkD_none .non
  refine ⟨_, rfl, rfl, _, rfl, ?_⟩
  refine ite2 (fun _ => ?_) (fun _ => ?_)
  · refine ⟨_, rfl, a, _, _, _, rfl, rfl, hS, g1, _, _, rfl, rfl, .inl ⟨by omega, by omega⟩, _, rfl, a, _, _, _, rfl, rfl, hS, g2, _, _, rfl, rfl, ?_⟩
    exact q H _ (.int (d1 * 997 + d2)) (Same.refl H) (OkD_int' (by omega)) (.int _)
  -- the word
  refine ⟨⟨_, rfl⟩, _, rfl, 1, rfl, _, rfl, a, _, _, _, rfl, rfl, hS, g2, .inl ⟨_, rfl, _, _, rfl, rfl, (by show (0 : Int) < 7; decide), _, _, rfl, rfl, _, rfl, a, _, rfl, hS, fun p1' n1 => ?_⟩⟩
  have cw : cutV (ds.map V.int) (some 1) (some (1 + d2 % 7)) = ((ds.drop 1).take (d2 % 7).toNat).map V.int := by
    have := cut_mid (ds.map V.int) 1 (1 + (d2 % 7).toNat)
    rw [show ((1 + (d2 % 7).toNat : Nat) : Int) = 1 + d2 % 7 by omega, show ((1 : Nat) : Int) = 1 from rfl] at this
    rw [this, ← List.map_drop, ← List.map_take, Nat.add_sub_cancel_left]
  rw [cw]
  have hsl : ((ds.drop 1).take (d2 % 7).toNat).length ≤ 6 := by rw [List.length_take]; omega
  have s1 := same_new n1 (.lst (((ds.drop 1).take (d2 % 7).toNat).map V.int))
  have h1' := upd_same (H := H) (a := p1') (o := HO.lst (((ds.drop 1).take (d2 % 7).toNat).map V.int))
  generalize (ds.drop 1).take (d2 % 7).toNat = sl at hsl s1 h1' ⊢
  refine ⟨p1', rfl, ⟨_, SqL.of h1'⟩, fun D nD => lc_list (K := K) (a := p1') (xs := sl.map V.int) (fun i H' => ∃ cs : List Nat, cs.length = i ∧ (∀ c ∈ cs, okC c) ∧ Same (upd H p1' (.lst (sl.map V.int))) H' ∧ H' D = some (.lst ((cs.map fun c => (⟨#[c]⟩ : Str)).map V.str)))
    ⟨[], rfl, (fun c hc => nomatch hc), same_new nD _, upd_same⟩ (fun i H' _ ⟨_, _, _, s, _⟩ => SqL.of (s _ _ h1')) ?_ ?_⟩
  · rintro i x H' hi ⟨cs, hcl, hco, s2, hD⟩
    obtain ⟨z, hz, rfl⟩ : ∃ z, sl[i]? = some z ∧ V.int z = x := by
      rw [List.getElem?_map] at hi
      cases e : sl[i]? with
      | none => rw [e] at hi; cases hi
      | some z => rw [e] at hi; exact ⟨z, rfl, Option.some.inj hi⟩
    have hil := (List.getElem?_eq_some_iff.mp hz).1
    refine ⟨rfl, ?_⟩
    have hm : (z % 8).toNat < menu.length := by show _ < 8; omega
    obtain ⟨mc, hmc, hok⟩ : ∃ mc, menu[(z % 8).toNat]? = some mc ∧ okC mc := ⟨_, List.getElem?_eq_getElem hm, menu_ok _ (List.getElem_mem hm)⟩
    have hat : atI (Str.ofString "ab c/-9Z").cps.toList (z % 8) = some mc := by
      rw [menu_cps, show z % 8 = (((z % 8).toNat : Nat) : Int) by omega]
      exact atI_nat hmc
    refine ⟨_, rfl, .inl ⟨_, rfl, _, _, rfl, rfl, (by show (0 : Int) < 8; decide), _, _, mc, rfl, rfl, sz (by rw [menu_len]; decide), hat, ?_⟩⟩
    refine ⟨_, hD, szl (by simp; omega), cs ++ [mc], by simp [hcl], fun c hc => ?_, same_mut s2 nD _, ?_⟩
    · rcases List.mem_append.mp hc with hc | hc
      · exact hco c hc
      · rw [List.mem_singleton.mp hc]; exact hok
    · rw [upd_same, List.map_append, List.map_append]
      rfl
  · rintro H' ⟨cs, hcl, hco, s2, hD⟩
    rw [List.length_map] at hcl
    have e1 : (((cs.map fun c => (⟨#[c]⟩ : Str))).map (·.length)).sum = cs.length := by
      rw [List.map_map]
      clear hcl hco hD
      induction cs with
      | nil => rfl
      | cons a l ih => rw [List.map_cons, List.sum_cons, ih, List.length_cons]; show 1 + _ = _; omega
    refine ⟨_, D, cs.map fun c => (⟨#[c]⟩ : Str), rfl, rfl, .inl (SqL.of hD), ?_, ?_⟩
    · rw [e1, List.length_map]
      show cs.length + cs.length * 0 ≤ 16777216
      omega
    have ej : Txt.join (Str.ofString "") (cs.map fun c => (⟨#[c]⟩ : Str)) = ⟨cs.toArray⟩ := by
      have := join_chars ⟨cs.toArray⟩
      rw [one_cps] at this
      exact this
    rw [show Txt.join (Str.ofString "") (cs.map fun c => (⟨#[c]⟩ : Str)) = ⟨cs.toArray⟩ from ej]
    have wl : (⟨cs.toArray⟩ : Str).length ≤ 6 := by show cs.toArray.size ≤ 6; simp; omega
    have wc : ∀ c ∈ (⟨cs.toArray⟩ : Str).cps.toList, okC c := by rw [one_cps]; exact hco
    generalize (⟨cs.toArray⟩ : Str) = wd at wl wc ⊢
    have S2 := s1.trans s2
    have ha2 := S2 _ _ ha
    have hS2 := SqL.of (K := K) ha2
    refine ⟨fun σ' H3 => ∃ x : Str, σ' = [some (.ref a), some (.int (d0 % 8)), some (.str x), none] ∧ H3 = H' ∧ x.length ≤ 200 ∧ ∀ c ∈ x.cps.toList, okC c, ?_, ?_⟩
    · refine ⟨_, rfl, rfl, _, rfl, ?_⟩
      refine ite2 (fun _ => ?_) (fun _ => ?_)
      · refine ⟨_, rfl, _, rfl, a, _, _, _, rfl, rfl, hS2, g3, .inl ⟨_, rfl, _, _, rfl, rfl, (by show (0 : Int) < 30; decide), _, _, rfl, rfl, _, _, rfl, rfl, by omega, by omega, by omega, ?_⟩⟩
        obtain ⟨m1, m2⟩ := mul_ok (x := wd) (n := 1 + d3 % 30) (by omega) (by omega) wl wc
        exact ⟨_, rfl, rfl, m1, m2⟩
      · exact ⟨wd, rfl, rfl, by omega, wc⟩
    · rintro σ' H3 ⟨x, rfl, rfl, xl, xc⟩
      refine ⟨_, rfl, _, _, rfl, rfl, _, rfl, ?_⟩
      refine ite2 (fun _ => ?_) (fun _ => ?_)
      · exact ⟨_, rfl, q H3 _ (.str x) S2 (OkD_str' xl xc) (.str x)⟩
      refine ⟨_, rfl, _, rfl, a, _, _, _, rfl, rfl, hS2, g4, _, rfl, a, _, _, _, rfl, rfl, hS2, g5, _, _, rfl, rfl, _, rfl, sz (by show 2 ≤ 1000000; decide), fun t1 nt1 => ?_⟩
      have s3 := same_new nt1 (.tup [.int (d5 - 400), .str x])
      refine ⟨_, rfl, a, _, _, _, rfl, rfl, SqL.of (s3 _ _ ha2), g6, _, _, rfl, rfl, (by show (0 : Int) < 2; decide), rfl, sz (by show 4 ≤ 1000000; decide), fun t2 nt2 => ?_⟩
      have s4 := same_new nt2 (.tup [.str x, .int d4, .ref t1, .bl (decide (V.int (d6 % 2) = V.int 0))])
      refine q _ (.ref t2) (.tuple [.str x, .int d4, .tuple [.int (d5 - 400), .str x], .bool (decide (V.int (d6 % 2) = V.int 0))]) (S2.trans (s3.trans s4)) ?_ ?_
      · refine ⟨by simp, fun d hd => ?_⟩
        simp only [List.mem_cons, List.not_mem_nil, or_false] at hd
        rcases hd with rfl | rfl | rfl | rfl
        · exact OkD_str' xl xc
        · exact OkD_int' (by omega)
        · refine ⟨by simp, fun d hd => ?_⟩
          simp only [List.mem_cons, List.not_mem_nil, or_false] at hd
          rcases hd with rfl | rfl
          · exact OkD_int' (by omega)
          · exact OkD_str' xl xc
        · exact OkD_bool
      · exact .tup (SqT.of upd_same) (.cons (.str _) (.cons (.int _) (.cons (.tup (SqT.of (s4 _ _ upd_same)) (.cons (.int _) (.cons (.str _) .nil))) (.cons (.bl _) .nil))))
/-! ## _law_write -/
def spLW (K : PySem.W.Frag) : Sp := fun vs H Q _ => ∃ (a : Addr) (D : Disk) (v : V) (i : Nat) (s : Sec), vs = [.ref a, nV i, v] ∧ DiskAt K H a D ∧ Dp K H v (secD s) ∧ i ≤ 500000 ∧ D.length ≤ 500000 ∧ ∀ H' r, Same H H' → H r = none → DiskAt K H' r (wr D i s) → Q (.ref r) H'
theorem wr_secD (D : Disk) (i : Nat) (s : Sec) : (wr D i s).map secD = (D.map secD ++ List.replicate (i + 1 - D.length) (secD .blank)).set i (secD s) := by
  unfold wr
  rw [List.map_set, List.map_append, List.map_replicate]
theorem ok_lw (F : Fun K "_law_write" "_law_write" sLWrite f fd) (T : Txt K mg C) : FnOk P w K mg base CX0 1 f fd ["_law_disk", "_law_index", "_law_sector"] (spLW K) := by
  refine F.ok scLWrite (fun vs H Q E h => by obtain ⟨a, D, v, i, s, rfl, _⟩ := h; rfl) (fun cdv A outer s0 H vs Q E hr h => ?_)
  obtain ⟨a, D, v, i, s, rfl, ⟨ds, hds, hdd⟩, hv, hi, hD, q⟩ := h
  have nd := scLWrite.nd
  refine ⟨_, (pss_cons ((ps_set (i := 3) nd rfl (Or.inl rfl) ((pe_op op_cat (pv 0) (pe_op op_rep (pe_lst (pa_cons (pe_op op_repT (pe_tup (pa_cons pe_int pa_nil)) pe_int) pa_nil)) (pe_callB (call_max2 rfl) (by rfl) T.b_max (by decide +kernel) (pa_cons (pe_int) (pa_cons ((pe_op op_sub ((pe_op op_add (pv 1) (pe_int))) ((pe_callB call_len_seq (by rfl) T.b_len PySem.boot_len (pa_cons (pv 0) pa_nil))))) pa_nil)))))))) (pss_cons (ps_asg (pv 2) (pg_sub (pv 3) (pv 1) set_list)) (pss_one ((ps_ret (pv 3)))))), ?_⟩
  have hdl := hdd.length
  rw [List.length_map] at hdl
  refine ⟨_, rfl, sz (by show 1 ≤ 1000000; decide), fun t1 n1 => ?_⟩
  have s1 := same_new n1 (.tup [.int 0])
  refine ⟨t1, 64, [.int 0], rfl, rfl, SqT.of upd_same, (by simp), by decide, by decide, by decide, fun t2 n2 => ?_⟩
  rw [show (64 : Int).toNat = 64 from rfl, rep1]
  have s2 := same_new n2 (.tup (List.replicate 64 (V.int 0)))
  refine ⟨sz (by show 1 ≤ 1000000; decide), fun l1 nl1 => ?_⟩
  have s3 := same_new nl1 (.lst [.ref t2])
  have S3 := s1.trans (s2.trans s3)
  have hds3 := S3 _ _ hds
  refine ⟨_, rfl, _, _, rfl, rfl, _, rfl, a, _, rfl, .inl (SqL.of hds3), _, _, rfl, rfl, _, _, rfl, ?_⟩
  generalize hk : (if (i : Int) + 1 - (ds.length : Int) > 0 then (i : Int) + 1 - (ds.length : Int) else 0) = k
  have hkn : k.toNat = i + 1 - D.length := by rw [← hk]; split <;> omega
  have hk0 : 0 ≤ k ∧ k ≤ 500001 := by rw [← hk]; split <;> omega
  refine ⟨l1, k, [.ref t2], rfl, rfl, upd_same, by omega, by omega, sz (by show 1 * _ ≤ _; omega), fun l2 nl2 => ?_⟩
  rw [rep1, hkn]
  have s4 := same_new nl2 (.lst (List.replicate (i + 1 - D.length) (V.ref t2)))
  refine ⟨a, l2, _, _, rfl, rfl, s4 _ _ hds3, upd_same, sz (by rw [List.length_replicate]; omega), fun g ng => ?_⟩
  have s5 := same_new ng (.lst (ds ++ List.replicate (i + 1 - D.length) (V.ref t2)))
  have S5 := S3.trans (s4.trans s5)
  have glen : (ds ++ List.replicate (i + 1 - D.length) (V.ref t2)).length = max D.length (i + 1) := by rw [List.length_append, List.length_replicate]; omega
  refine ⟨_, rfl, _, rfl, _, rfl, g, _, (i : Int), i, rfl, rfl, upd_same, ?_, ?_⟩
  · rw [glen]
    unfold ixN
    rw [if_pos (by omega), if_pos (by omega)]
    simp
  have k6 : ∀ o, KT (upd (upd (upd (upd (upd (upd H t1 (.tup [.int 0])) t2 (.tup (List.replicate 64 (V.int 0)))) l1 (.lst [.ref t2])) l2 (.lst (List.replicate (i + 1 - D.length) (V.ref t2)))) g (.lst (ds ++ List.replicate (i + 1 - D.length) (V.ref t2)))) g o) (upd (upd (upd (upd (upd (upd H t1 (.tup [.int 0])) t2 (.tup (List.replicate 64 (V.int 0)))) l1 (.lst [.ref t2])) l2 (.lst (List.replicate (i + 1 - D.length) (V.ref t2)))) g (.lst (ds ++ List.replicate (i + 1 - D.length) (V.ref t2)))) g o) := fun o b xs r => r
  have kg : ∀ o, KT H (upd (upd (upd (upd (upd (upd H t1 (.tup [.int 0])) t2 (.tup (List.replicate 64 (V.int 0)))) l1 (.lst [.ref t2])) l2 (.lst (List.replicate (i + 1 - D.length) (V.ref t2)))) g (.lst (ds ++ List.replicate (i + 1 - D.length) (V.ref t2)))) g o) := fun o => (Same.kt S5).trans (kt_lst upd_same)
  have hg0 : H g = none := S3.free (s4.free ng)
  have tb : Dp K (upd (upd (upd (upd (upd (upd H t1 (.tup [.int 0])) t2 (.tup (List.replicate 64 (V.int 0)))) l1 (.lst [.ref t2])) l2 (.lst (List.replicate (i + 1 - D.length) (V.ref t2)))) g (.lst (ds ++ List.replicate (i + 1 - D.length) (V.ref t2)))) g (.lst ((ds ++ List.replicate (i + 1 - D.length) (V.ref t2)).set i v))) (.ref t2) (secD .blank) := by
    refine dp_of_ints ?_
    have e : ((Sec.blank.enc).map V.int) = List.replicate 64 (V.int 0) := by show (List.replicate 64 (0 : Int)).map V.int = _; rw [List.map_replicate]
    rw [e]
    exact (kt_lst upd_same).t (s5.t (s4.t (s3.t (SqT.of upd_same))))
  refine ⟨_, rfl, q _ g (same_mut S5 hg0 _) hg0 ⟨_, upd_same, ?_⟩⟩
  rw [wr_secD]
  exact DpAll.set (Dp.kt (kg _) (secD_imm s) hv) i ((DpAll.kt (kg _) (disk_imm D) hdd).append (DpAll.rep tb _))
end
end Mj
set_option Elab.async false
set_option linter.all false
set_option maxRecDepth 100000
set_option maxHeartbeats 4000000
namespace Mj
open PySem L2
/-! ## what is written since the last sync, as data -/
def UD (q : Nat × Sec) : PyData := .tuple [.int q.1, .list [secD q.2]]
theorem ud_inv {K : PySem.W.Frag} {H : Hp} {v : V} {q : Nat × Sec} (h : Dp K H v (UD q)) : ∃ t c y, v = .ref t ∧ SqT K H t [nV q.1, .ref c] ∧ SqL K H c [y] ∧ Dp K H y (secD q.2) := by
  obtain ⟨t, xs, rfl, hT, hA⟩ := dp_tup h
  cases hA with
  | cons h1 hA =>
    cases hA with
    | cons h2 hA =>
      cases hA
      cases h1
      obtain ⟨c, ys, rfl, hL, hB⟩ := dp_lst h2
      cases hB with
      | cons h3 hB =>
        cases hB
        exact ⟨t, c, _, rfl, hT, hL, h3⟩
theorem sw_ne : ¬ (("write" : Str) = "sync") := by decide +kernel
theorem stp_w {K : PySem.W.Frag} {H : Hp} {v : V} {i : Nat} {s : Sec} (h : Dp K H v (stpD (.w i s))) : ∃ t y, v = .ref t ∧ SqT K H t [.str "write", nV i, y] ∧ Dp K H y (secD s) := by
  obtain ⟨t, xs, rfl, hT, hA⟩ := dp_tup h
  cases hA with
  | cons h1 hA =>
    cases hA with
    | cons h2 hA =>
      cases hA with
      | cons h3 hA =>
        cases hA
        cases h1
        cases h2
        exact ⟨t, _, rfl, hT, h3⟩
theorem stp_s {K : PySem.W.Frag} {H : Hp} {v : V} (h : Dp K H v (stpD .sync)) : ∃ t, v = .ref t ∧ SqT K H t [.str "sync"] := by
  obtain ⟨t, xs, rfl, hT, hA⟩ := dp_tup h
  cases hA with
  | cons h1 hA =>
    cases hA
    cases h1
    exact ⟨t, rfl, hT⟩
theorem wrAll_take {D : Disk} {U : Uns} {j : Nat} {q : Nat × Sec} (h : U[j]? = some q) : wrAll D (U.take (j + 1)) = wr (wrAll D (U.take j)) q.1 q.2 := by
  unfold wrAll
  rw [List.take_add_one, h, List.foldl_append]
  rfl
theorem run_take {x : Disk × Uns} {ss : List Stp} {j : Nat} {q : Stp} (h : ss[j]? = some q) : run x (ss.take (j + 1)) = stp1 (run x (ss.take j)) q := by
  unfold run
  rw [List.take_add_one, h, List.foldl_append]
  rfl
theorem Once.at : ∀ (ss : List Stp) (D : Disk) (U : Uns) (j : Nat) (i : Nat) (s : Sec), Once U ss → ss[j]? = some (.w i s) → i ∉ (run (D, U) (ss.take j)).2.map (·.1)
  | [], D, U, j, i, s, _, h => by simp at h
  | x :: r, D, U, 0, i, s, ho, h => by
    have e : x = .w i s := by simpa using h
    subst e
    exact ho.1
  | .w i' s' :: r, D, U, j + 1, i, s, ho, h => by
    rw [List.take_succ_cons]
    exact Once.at r D (U ++ [(i', s')]) j i s ho.2 (by simpa using h)
  | .sync :: r, D, U, j + 1, i, s, ho, h => by
    rw [List.take_succ_cons]
    exact Once.at r (wrAll D U) [] j i s ho (by simpa using h)
/-- the steps write below B -/
def Bd (B : Nat) (ss : List Stp) : Prop := ∀ i s, .w i s ∈ ss → i < B
theorem run_bd {B : Nat} : ∀ (ss : List Stp) (D : Disk) (U : Uns), D.length ≤ B → (∀ q ∈ U, q.1 < B) → Bd B ss → (run (D, U) ss).1.length ≤ B ∧ (∀ q ∈ (run (D, U) ss).2, q.1 < B) ∧ (run (D, U) ss).2.length ≤ U.length + ss.length
  | [], D, U, h1, h2, _ => ⟨h1, h2, Nat.le_refl _⟩
  | .w i s :: r, D, U, h1, h2, h3 => by
    have := run_bd r D (U ++ [(i, s)]) h1 (fun q hq => by
      rcases List.mem_append.mp hq with hq | hq
      · exact h2 q hq
      · rw [List.mem_singleton.mp hq]; exact h3 i s (List.mem_cons_self ..)) fun i' s' hm => h3 i' s' (List.mem_cons_of_mem _ hm)
    refine ⟨this.1, this.2.1, Nat.le_trans this.2.2 ?_⟩
    simp
    omega
  | .sync :: r, D, U, h1, h2, h3 => by
    have := run_bd r (wrAll D U) [] (wrAll_len U h1 h2) (fun q hq => nomatch hq) fun i' s' hm => h3 i' s' (List.mem_cons_of_mem _ hm)
    refine ⟨this.1, this.2.1, Nat.le_trans this.2.2 ?_⟩
    simp
    omega
section
variable {P : Program} {w : World} {K : PySem.W.Frag} {mg : Str → Option Value} {base : Heap} {C : Addr} {f : Addr} {fd : FuncData}
/-! ## _law_step -/
def Fits (U : Uns) : Stp → Prop
  | .w i s => i ∉ U.map (·.1) ∧ i < 400000
  | .sync => True
def spLStep (K : PySem.W.Frag) : Sp := fun vs H Q _ => ∃ (a : Addr) (vU vS : V) (D : Disk) (U : Uns) (x : Stp), vs = [.ref a, vU, vS] ∧ DiskAt K H a D ∧ Dp K H vU (.list (U.map UD)) ∧ Dp K H vS (stpD x) ∧ Fits U x ∧ D.length ≤ 400000 ∧ (∀ q ∈ U, q.1 < 400000) ∧ U.length ≤ 100000 ∧
  ∀ H' t r vU', Same H H' → H' t = some (.tup [.ref r, vU']) → (r = a ∨ H r = none) → DiskAt K H' r (stp1 (D, U) x).1 → Dp K H' vU' (.list ((stp1 (D, U) x).2.map UD)) → Q (.ref t) H'
theorem ok_lstep (F : Fun K "_law_step" "_law_step" sLStep f fd) (T : Txt K mg C) (cW : C8.Cal P w K mg base 1 "_law_write" (spLW K) []) : FnOk P w K mg base CX0 2 f fd ["_law_disk", "_law_unsafe", "_law_step_here"] (spLStep K) := by
  refine F.ok scLStep (fun vs H Q E h => by obtain ⟨a, vU, vS, D, U, x, rfl, _⟩ := h; rfl) (fun cdv A outer s0 H vs Q E hr h => ?_)
  obtain ⟨a, vU, vS, D, U, x, rfl, hD, hU, hS, hfit, hDl, hUi, hUl, q⟩ := h
  have nd := scLStep.nd
  refine ⟨_, (pss_cons ((ps_if ((pt_cmpR op_eq (pe_ix ix_tup (pv 2) (pe_int) (fun _ _ => rfl)) pe_str (nomark _))) (pss_cons ((ps_for PassesOwn.never rfl (pi_list (pv 1)) ((pg_tup (by rfl) (pgs_cons (pg_name (i := 3) nd rfl (Or.inl rfl)) (pgs_cons (pg_name (i := 4) nd rfl (Or.inl rfl)) pgs_nil)))) (pss_one ((ps_set (i := 0) nd rfl (Or.inl rfl) ((C8.pe_c cW hr (by omega) (by rfl) (pa_cons (pv 0) (pa_cons (pv 3) (pa_cons ((pe_ix ix_list (pv 4) (pe_un un_neg pe_int) (fun _ _ => rfl))) pa_nil)))))))))) (pss_one ((ps_ret ((pe_tup (pa_cons (pv 0) (pa_cons (pe_lst pa_nil) pa_nil)))))))) pss_nil)) (pss_cons ((ps_set (i := 5) nd rfl (Or.inl rfl) (pe_lst pa_nil))) (pss_cons ((ps_set (i := 6) nd rfl (Or.inl rfl) (pe_lst (pa_cons (pe_ix ix_tup (pv 2) (pe_int) (fun _ _ => rfl)) pa_nil)))) (pss_cons ((ps_for PassesOwn.never rfl (pi_list (pv 1)) ((pg_tup (by rfl) (pgs_cons (pg_name (i := 3) nd rfl (Or.inl rfl)) (pgs_cons (pg_name (i := 4) nd rfl (Or.inl rfl)) pgs_nil)))) (pss_one ((ps_if ((pt_cmpR op_eq (pv 3) (pe_ix ix_tup (pv 2) (pe_int) (fun _ _ => rfl)) (nomark _))) (pss_one ((ps_set (i := 6) nd rfl (Or.inl rfl) ((pe_op op_cat (pv 4) (pe_lst (pa_cons (pe_ix ix_tup (pv 2) (pe_int) (fun _ _ => rfl)) pa_nil))))))) (pss_one ((ps_expr ((pe_bm PySem.F.plainAttrs_list PySem.F.slot_list_append PySem.F.type_list_append mt_append (pv 5) (pa_cons ((pe_tup (pa_cons (pv 3) (pa_cons (pv 4) pa_nil)))) pa_nil))))))))))) (pss_one ((ps_ret ((pe_tup (pa_cons (pv 0) (pa_cons ((pe_op op_cat (pv 5) (pe_lst (pa_cons (pe_tup (pa_cons ((pe_ix ix_tup (pv 2) (pe_int) (fun _ _ => rfl))) (pa_cons (pv 6) pa_nil))) pa_nil)))) pa_nil))))))))))), ?_⟩
  obtain ⟨u, us, rfl, hUS, hUA⟩ := dp_lst hU
  have hul := hUA.length
  rw [List.length_map] at hul
  cases x with
  | sync =>
    obtain ⟨t, rfl, hT⟩ := stp_s hS
    refine ⟨_, rfl, t, _, _, _, rfl, rfl, hT, atI_nat (j := 0) rfl, rfl, _, rfl, ?_⟩
    rw [decide_eq_true rfl]
    refine iteT ?_
    refine ⟨_, rfl, u, rfl, ⟨_, hUS⟩, for_list (K := K) (a := u) (xs := us) (fun j σ H' => ∃ (r : Addr) (u3 u4 : Option V), σ = [some (.ref r), some (.ref u), some (.ref t), u3, u4, none, none] ∧ Same H H' ∧ DiskAt K H' r (wrAll D (U.take j)) ∧ (r = a ∨ H r = none))
      ⟨a, none, none, rfl, Same.refl H, hD, .inl rfl⟩ (fun j σ H' _ ⟨_, _, _, _, s, _⟩ => s.seq hUS) ?_ ?_⟩
    · rintro j y σ H1 hj ⟨r, u3, u4, rfl, s1, hd1, hra⟩
      obtain ⟨d, g1, g2⟩ := hUA.getv hj
      obtain ⟨q1, hq1, rfl⟩ : ∃ q1, U[j]? = some q1 ∧ UD q1 = d := by
        rw [List.getElem?_map] at g1
        cases e : U[j]? with
        | none => rw [e] at g1; cases g1
        | some z => rw [e] at g1; exact ⟨z, rfl, Option.some.inj g1⟩
      obtain ⟨ty, c, z, rfl, hT2, hL2, hz⟩ := ud_inv g2
      have hq1m := hUi q1 (List.mem_of_getElem? hq1)
      refine ⟨ty, _, rfl, s1.t hT2, rfl, _, _, rfl, _, _, rfl, rfl, ?_⟩
      refine ⟨_, rfl, _, rfl, _, rfl, 1, rfl, c, _, _, z, rfl, rfl, s1.seq hL2, atI_last [] z, r, wrAll D (U.take j), z, q1.1, q1.2, rfl, hd1, hz.same s1, by omega, ?_, fun H2 r2 s2 nr2 hd2 => ?_⟩
      · exact Nat.le_trans (wrAll_len (B := 400000) _ hDl fun x hx => hUi x (List.mem_of_mem_take hx)) (by decide)
      · refine ⟨r2, some (nV q1.1), some (.ref c), rfl, s1.trans s2, ?_, .inr (s1.free nr2)⟩
        rw [wrAll_take hq1]
        exact hd2
    · rintro σ H1 ⟨r, u3, u4, rfl, s1, hd1, hra⟩
      rw [hul, List.take_length] at hd1
      refine ⟨_, rfl, sz (Nat.zero_le _), fun l hl => ?_⟩
      have s2 := same_new hl (.lst [])
      refine ⟨sz (by show 2 ≤ 1000000; decide), fun t2 nt2 => ?_⟩
      have s3 := same_new nt2 (.tup [.ref r, .ref l])
      exact q _ t2 r (.ref l) (s1.trans (s2.trans s3)) upd_same hra ((hd1.same s2).same s3) (.lst (SqL.of (s3 _ _ upd_same)) .nil)
  | w i sc =>
    obtain ⟨t, y, rfl, hT, hy⟩ := stp_w hS
    refine ⟨_, rfl, t, _, _, _, rfl, rfl, hT, atI_nat (j := 0) rfl, rfl, _, rfl, ?_⟩
    rw [decide_eq_false (show ¬ (V.str ("write" : Str)) = V.str "sync" from fun z => sw_ne (V.str.inj z))]
    refine iteF ?_
    refine ⟨sz (Nat.zero_le _), fun kp nkp => ?_⟩
    have s1 := same_new nkp (.lst [])
    refine ⟨_, rfl, t, _, _, _, rfl, rfl, s1.t hT, atI_nat (j := 2) rfl, sz (by show 1 ≤ 1000000; decide), fun fo nfo => ?_⟩
    have s2 := same_new nfo (.lst [y])
    have nfk : fo ≠ kp := fun z => by rw [z, upd_same] at nfo; cases nfo
    have nfo0 : H fo = none := s1.free nfo
    refine ⟨_, rfl, u, rfl, ⟨_, (s1.trans s2).seq hUS⟩, for_list (K := K) (a := u) (xs := us) (fun j σ H' => ∃ (u3 u4 : Option V) (ks : List V) (Hk : Hp), σ = [some (.ref a), some (.ref u), some (.ref t), u3, u4, some (.ref kp), some (.ref fo)] ∧ Same H Hk ∧ Hk kp = none ∧ Same Hk H' ∧ H' kp = some (.lst ks) ∧
        DpAll K Hk ks ((U.take j).map UD) ∧ Hk fo = some (.lst [y]))
      ⟨none, none, [], upd H fo (.lst [y]), rfl, same_new nfo0 _, by rw [upd_ne nfk.symm]; exact nkp, ?_, s2 _ _ upd_same, .nil, upd_same⟩ (fun j σ H' _ ⟨_, _, _, _, _, s, _, s', _⟩ => (s.trans s').seq hUS) ?_ ?_⟩
    · intro b o e
      by_cases hb : b = fo
      · rw [hb, upd_same] at e
        rw [hb, upd_same, e]
      · rw [upd_ne hb] at e
        rw [upd_ne hb, upd_ne (ne_of_none e nkp)]
        exact e
    · rintro j yv σ H1 hj ⟨u3, u4, ks, Hk, rfl, sk, nk, sk1, hk, dk, hfo⟩
      obtain ⟨d, g1, g2⟩ := hUA.getv hj
      obtain ⟨q1, hq1, rfl⟩ : ∃ q1, U[j]? = some q1 ∧ UD q1 = d := by
        rw [List.getElem?_map] at g1
        cases e : U[j]? with
        | none => rw [e] at g1; cases g1
        | some z => rw [e] at g1; exact ⟨z, rfl, Option.some.inj g1⟩
      obtain ⟨ty, c, z, rfl, hT2, hL2, hz⟩ := ud_inv g2
      have S1 := sk.trans sk1
      have hkl := dk.length
      rw [List.length_map, List.length_take] at hkl
      have nei : ¬ (q1.1 = i) := fun z => hfit.1 (by rw [← z]; exact List.mem_map_of_mem (List.mem_of_getElem? hq1))
      refine ⟨ty, _, rfl, S1.t hT2, rfl, _, _, rfl, _, _, rfl, rfl, ?_⟩
      refine ⟨_, rfl, _, rfl, t, _, _, _, rfl, rfl, S1.t hT, atI_nat (j := 1) rfl, rfl, _, rfl, ?_⟩
      rw [decide_eq_false (show ¬ (V.int (q1.1 : Int)) = V.int (i : Int) from fun z => nei (by have := V.int.inj z; omega))]
      refine iteF ?_
      refine ⟨_, rfl, .inl ⟨rfl, _, SqL.of hk⟩, _, rfl, _, rfl, sz (by show 2 ≤ 1000000; decide), fun t2 nt2 => ?_⟩
      have s3 := same_new nt2 (.tup [nV q1.1, .ref c])
      have nt2k : t2 ≠ kp := fun z => by rw [z, hk] at nt2; cases nt2
      have nt2H : Hk t2 = none := sk1.free nt2
      have s4 := same_new nt2H (.tup [nV q1.1, .ref c])
      refine ⟨kp, ks, _, rfl, rfl, s3 _ _ hk, szl (by omega), ?_⟩
      refine ⟨some (nV q1.1), some (.ref c), ks ++ [.ref t2], upd Hk t2 (.tup [nV q1.1, .ref c]), rfl, sk.trans s4, by rw [upd_ne nt2k.symm]; exact nk, ?_, upd_same, ?_, s4 _ _ hfo⟩
      · intro b o e
        by_cases hb : b = t2
        · rw [hb, upd_same] at e
          rw [hb, upd_ne nt2k, upd_same, e]
        · rw [upd_ne hb] at e
          rw [upd_ne (fun z => by rw [z, nk] at e; cases e), upd_ne hb]
          exact sk1 _ _ e
      · rw [map_take hq1]
        refine (DpAll.same s4 dk).append (.cons ?_ .nil)
        exact .tup (SqT.of upd_same) (.cons (.int _) (.cons (.lst (s4.seq (sk.seq hL2)) (.cons (hz.same (sk.trans s4)) .nil)) .nil))
    · rintro σ H1 ⟨u3, u4, ks, Hk, rfl, sk, nk, sk1, hk, dk, hfo⟩
      rw [hul, List.take_length] at dk
      have hkl := dk.length
      rw [List.length_map] at hkl
      have S1 := sk.trans sk1
      refine ⟨_, rfl, _, rfl, _, rfl, t, _, _, _, rfl, rfl, S1.t hT, atI_nat (j := 1) rfl, _, rfl, sz (by show 2 ≤ 1000000; decide), fun t2 nt2 => ?_⟩
      have s3 := same_new nt2 (.tup [nV i, .ref fo])
      refine ⟨sz (by show 1 ≤ 1000000; decide), fun l2 nl2 => ?_⟩
      have s4 := same_new nl2 (.lst [.ref t2])
      refine ⟨kp, l2, ks, _, rfl, rfl, s4 _ _ (s3 _ _ hk), upd_same, sz (by show ks.length + 1 ≤ 1000000; omega), fun l3 nl3 => ?_⟩
      have s5 := same_new nl3 (.lst (ks ++ [.ref t2]))
      refine ⟨sz (by show 2 ≤ 1000000; decide), fun t3 nt3 => ?_⟩
      have s6 := same_new nt3 (.tup [.ref a, .ref l3])
      have S6 := s3.trans (s4.trans (s5.trans s6))
      have dy := hy.same (S1.trans S6)
      refine q _ t3 a (.ref l3) (S1.trans S6) upd_same (.inl rfl) (hD.same (S1.trans S6)) ?_
      show Dp K _ _ (.list ((U ++ [(i, sc)]).map UD))
      rw [List.map_append]
      refine .lst (SqL.of (s6 _ _ upd_same)) ((DpAll.same (sk1.trans S6) dk).append (.cons ?_ .nil))
      exact .tup (SqT.of (s6 _ _ (s5 _ _ (s4 _ _ upd_same)))) (.cons (.int _) (.cons (.lst (SqL.of (S6 _ _ (sk1 _ _ hfo))) (.cons dy .nil)) .nil))
/-! ## _law_run_steps -/
def spLRun (K : PySem.W.Frag) : Sp := fun vs H Q _ => ∃ (a b : Addr) (D : Disk) (ss : List Stp) (ys : List V) (n : Nat), vs = [.ref a, .ref b, nV n] ∧ DiskAt K H a D ∧ H b = some (.lst ys) ∧ DpAll K H ys (ss.map stpD) ∧ Once [] ss ∧ Bd 400000 ss ∧ D.length ≤ 400000 ∧ ss.length ≤ 100000 ∧
  ∀ H' t r vU, Same H H' → H' t = some (.tup [.ref r, vU]) → (r = a ∨ H r = none) → DiskAt K H' r (run (D, []) (ss.take n)).1 → Dp K H' vU (.list ((run (D, []) (ss.take n)).2.map UD)) → Q (.ref t) H'
theorem ok_lrun (F : Fun K "_law_run_steps" "_law_run_steps" sLRun f fd) (T : Txt K mg C) (cS : C8.Cal P w K mg base 2 "_law_step" (spLStep K) []) : FnOk P w K mg base CX0 3 f fd ["_law_disk", "_law_steps", "_law_count"] (spLRun K) := by
  refine F.ok scLRun (fun vs H Q E h => by obtain ⟨a, b, D, ss, ys, n, rfl, _⟩ := h; rfl) (fun cdv A outer s0 H vs Q E hr h => ?_)
  obtain ⟨a, b, D, ss, ys, n, rfl, hD, hb, hyd, ho, hbd, hDl, hsl, q⟩ := h
  have nd := scLRun.nd
  refine ⟨_, (pss_cons ((ps_set (i := 3) nd rfl (Or.inl rfl) (pe_lst pa_nil))) (pss_cons ((ps_for PassesOwn.never rfl (pi_list (pe_slice sl_list (pv 1) po_none (po_some (pv 2)))) ((pg_name (i := 4) nd rfl (Or.inl rfl))) (pss_one (ps_asg (C8.pe_c cS hr (by omega) (by rfl) (pa_cons (pv 0) (pa_cons (pv 3) (pa_cons (pv 4) pa_nil)))) (pg_tup (by rfl) (pgs_cons (pg_name (i := 0) nd rfl (Or.inl rfl)) (pgs_cons (pg_name (i := 3) nd rfl (Or.inl rfl)) pgs_nil))))))) (pss_one ((ps_ret ((pe_tup (pa_cons (pv 0) (pa_cons (pv 3) pa_nil))))))))), ?_⟩
  refine ⟨sz (Nat.zero_le _), fun l hl => ?_⟩
  have s1 := same_new hl (.lst [])
  refine ⟨_, rfl, _, rfl, (n : Int), rfl, b, _, rfl, SqL.of (s1 _ _ hb), fun p1 n1 => ?_⟩
  rw [cut_to]
  have s2 := same_new n1 (.lst (ys.take n))
  have hp1 := upd_same (H := upd H l (.lst [])) (a := p1) (o := HO.lst (ys.take n))
  have S2 := s1.trans s2
  have hyt : DpAll K H (ys.take n) ((ss.take n).map stpD) := by rw [List.map_take]; exact hyd.take n
  have ho2 := ho.take (n := n) ss []
  have hbd2 : Bd 400000 (ss.take n) := fun i s hm => hbd i s (List.mem_of_mem_take hm)
  have hsl2 : (ss.take n).length ≤ 100000 := by rw [List.length_take]; omega
  have hl2 : (upd (upd H l (.lst [])) p1 (.lst (ys.take n))) l = some (.lst []) := s2 _ _ upd_same
  generalize ss.take n = s' at hyt ho2 hbd2 hsl2 q
  generalize ys.take n = y' at hyt hp1 S2 hl2 ⊢
  have hyl := hyt.length
  rw [List.length_map] at hyl
  refine ⟨p1, rfl, ⟨_, SqL.of hp1⟩, for_list (K := K) (a := p1) (xs := y') (fun j σ H' => ∃ (r : Addr) (vU : V) (u4 : Option V), σ = [some (.ref r), some (.ref b), some (nV n), some vU, u4] ∧ Same (upd (upd H l (.lst [])) p1 (.lst y')) H' ∧ DiskAt K H' r (run (D, []) (s'.take j)).1 ∧
      Dp K H' vU (.list ((run (D, []) (s'.take j)).2.map UD)) ∧ (r = a ∨ H r = none))
    ⟨a, .ref l, none, rfl, Same.refl _, hD.same S2, .lst (SqL.of hl2) .nil, .inl rfl⟩ (fun j σ H' _ ⟨_, _, _, _, s, _⟩ => SqL.of (s _ _ hp1)) ?_ ?_⟩
  · rintro j yv σ H1 hj ⟨r, vU, u4, rfl, s3, hd3, hu3, hra⟩
    obtain ⟨d, g1, g2⟩ := hyt.getv hj
    obtain ⟨x, hx, rfl⟩ : ∃ x, s'[j]? = some x ∧ stpD x = d := by
      rw [List.getElem?_map] at g1
      cases e : s'[j]? with
      | none => rw [e] at g1; cases g1
      | some z => rw [e] at g1; exact ⟨z, rfl, Option.some.inj g1⟩
    have hjl := (List.getElem?_eq_some_iff.mp hx).1
    obtain ⟨b1, b2, b3⟩ := run_bd (B := 400000) (s'.take j) D [] hDl (fun q hq => nomatch hq) fun i s hm => hbd2 i s (List.mem_of_mem_take hm)
    have ff : Fits (run (D, []) (s'.take j)).2 x := by
      cases x with
      | w i s => exact ⟨Once.at s' D [] j i s ho2 hx, hbd2 i s (List.mem_of_getElem? hx)⟩
      | sync => trivial
    refine ⟨_, rfl, _, rfl, _, rfl, r, vU, yv, (run (D, []) (s'.take j)).1, (run (D, []) (s'.take j)).2, x, rfl, hd3, hu3, g2.same (S2.trans s3), ff, b1, b2, ?_, fun H2 t r2 vU2 s4 ht hr2 hd4 hu4 => ?_⟩
    · rw [List.length_take] at b3
      simp at b3
      omega
    · refine ⟨t, _, rfl, SqT.of ht, rfl, _, _, rfl, _, _, rfl, rfl, ?_⟩
      rw [← run_take hx] at hd4 hu4
      refine ⟨r2, vU2, some yv, rfl, s3.trans s4, hd4, hu4, ?_⟩
      rcases hr2 with rfl | hr2
      · exact hra
      · exact .inr ((S2.trans s3).free hr2)
  · rintro σ H1 ⟨r, vU, u4, rfl, s3, hd3, hu3, hra⟩
    rw [hyl, List.take_length] at hd3 hu3
    refine ⟨_, rfl, _, rfl, sz (by show 2 ≤ 1000000; decide), fun t2 nt2 => ?_⟩
    have s4 := same_new nt2 (.tup [.ref r, vU])
    exact q _ t2 r vU (S2.trans (s3.trans s4)) upd_same hra (hd3.same s4) (hu3.same s4)
/-! ## _law_fall -/
def spLFall (K : PySem.W.Frag) : Sp := fun vs H Q _ => ∃ (a r : Addr) (vU : V) (D : Disk) (U : Uns) (ds : List Int), vs = [.ref a, vU, .ref r] ∧ DiskAt K H a D ∧ Dp K H vU (.list (U.map UD)) ∧ H r = some (.lst (ds.map V.int)) ∧ ds ≠ [] ∧ ds.length ≤ 1000 ∧ InB ds ∧ D.length ≤ 400000 ∧ (∀ q ∈ U, q.1 < 400000) ∧ U.length ≤ 100000 ∧
  ∀ H' x ch, Same H H' → (x = a ∨ H x = none) → DiskAt K H' x (fallN D U ch U.length) → Q (.ref x) H'
theorem ok_lfall (F : Fun K "_law_fall" "_law_fall" sLFall f fd) (T : Txt K mg C) (cW : C8.Cal P w K mg base 1 "_law_write" (spLW K) []) : FnOk P w K mg base CX0 2 f fd ["_law_disk", "_law_unsafe", "_law_draws_here"] (spLFall K) := by
  refine F.ok scLFall (fun vs H Q E h => by obtain ⟨a, r, vU, D, U, ds, rfl, _⟩ := h; rfl) (fun cdv A outer s0 H vs Q E hr h => ?_)
  obtain ⟨a, r, vU, D, U, ds, rfl, hD, hU, hr0, hne, hdl, hdb, hDl, hUi, hUl, q⟩ := h
  have nd := scLFall.nd
  refine ⟨_, (pss_cons ((ps_set (i := 3) nd rfl (Or.inl rfl) (pv 0))) (pss_cons ((ps_for PassesOwn.never rfl ((pi_range1 (by rfl) T.b_range (pa_cons ((pe_callB call_len_seq (by rfl) T.b_len PySem.boot_len (pa_cons (pv 1) pa_nil))) pa_nil))) ((pg_name (i := 4) nd rfl (Or.inl rfl))) (pss_cons (ps_asg (pe_ix ix_list (pv 1) (pv 4) (fun _ _ => rfl)) (pg_tup (by rfl) (pgs_cons (pg_name (i := 5) nd rfl (Or.inl rfl)) (pgs_cons (pg_name (i := 6) nd rfl (Or.inl rfl)) pgs_nil)))) (pss_cons ((ps_set (i := 7) nd rfl (Or.inl rfl) ((pe_op op_mod ((pe_callTy call_int1 (by rfl) T.b_int (by decide +kernel) (pa_cons ((pe_op op_add ((pe_ix ix_list (pv 2) ((pe_op op_mod (pv 4) ((pe_callB call_len_seq (by rfl) T.b_len PySem.boot_len (pa_cons (pv 2) pa_nil))))) (fun _ _ => rfl))) ((pe_op op_fdiv (pv 4) ((pe_callB call_len_seq (by rfl) T.b_len PySem.boot_len (pa_cons (pv 2) pa_nil))))))) pa_nil))) ((pe_op op_add ((pe_callB call_len_seq (by rfl) T.b_len PySem.boot_len (pa_cons (pv 6) pa_nil))) (pe_int))))))) (pss_one ((ps_if ((pt_cmpR op_gt (pv 7) pe_int (nomark _))) (pss_one ((ps_set (i := 3) nd rfl (Or.inl rfl) ((C8.pe_c cW hr (by omega) (by rfl) (pa_cons (pv 3) (pa_cons (pv 5) (pa_cons ((pe_ix ix_list (pv 6) ((pe_op op_sub (pv 7) (pe_int))) (fun _ _ => rfl))) pa_nil)))))))) pss_nil))))))) (pss_one ((ps_ret (pv 3)))))), ?_⟩
  obtain ⟨u, us, rfl, hUS, hUA⟩ := dp_lst hU
  have hul := hUA.length
  rw [List.length_map] at hul
  have hml : (ds.map V.int).length = ds.length := List.length_map _
  have hdp : 0 < ds.length := List.length_pos_iff.mpr hne
  refine ⟨_, rfl, ?_⟩
  refine ⟨_, rfl, u, _, rfl, .inl hUS, ((us.length : Nat) : Int), rfl, by omega, by omega, ?_⟩
  rw [show (((us.length : Nat) : Int)).toNat = us.length by omega]
  let ch : Nat → Bool := fun k => decide (0 < (ds.getD (k % ds.length) 0 + ((k / ds.length : Nat) : Int)) % 2)
  refine for_range (lo := 0) (n := us.length) (fun k σ H' => ∃ (x : Addr) (u4 u5 u6 u7 : Option V), σ = [some (.ref a), some (.ref u), some (.ref r), some (.ref x), u4, u5, u6, u7] ∧ Same H H' ∧ DiskAt K H' x (fallN D U ch k) ∧ (x = a ∨ H x = none))
    ⟨a, none, none, none, none, rfl, Same.refl H, hD, .inl rfl⟩ ?_ ?_
  · rintro k σ H1 hk ⟨x, u4, u5, u6, u7, rfl, s1, hd1, hxa⟩
    obtain ⟨q1, hq1⟩ : ∃ q1, U[k]? = some q1 := ⟨_, List.getElem?_eq_getElem (by omega)⟩
    obtain ⟨yv, hyv, hyd⟩ := hUA.get (i := k) (d := UD q1) (by rw [List.getElem?_map, hq1]; rfl)
    obtain ⟨ty, c, z, rfl, hT2, hL2, hz⟩ := ud_inv hyd
    have hq1m := hUi q1 (List.mem_of_getElem? hq1)
    have e0 : (0 : Int) + (k : Int) = (k : Int) := by omega
    refine ⟨_, rfl, _, rfl, u, _, _, _, rfl, rfl, s1.seq hUS, (by
      show atI us ((0 : Int) + (k : Int)) = _
      rw [e0]
      exact atI_nat hyv), ty, _, rfl, s1.t hT2, rfl, _, _, rfl, _, _, rfl, rfl, ?_⟩
    have hmk : k % ds.length < ds.length := Nat.mod_lt _ hdp
    have hget : ds[k % ds.length]? = some (ds.getD (k % ds.length) 0) := by
      rw [List.getD_eq_getElem?_getD, List.getElem?_eq_getElem hmk]
      rfl
    have hS1 := SqL.of (K := K) (s1 _ _ hr0)
    refine ⟨_, rfl, _, rfl, _, rfl, r, _, rfl, .inl hS1, _, _, rfl, rfl, (by show (0 : Int) < (((ds.map V.int).length : Nat) : Int); omega), r, _, _, _, rfl, rfl, hS1, (by
      show atI (ds.map V.int) (((0 : Int) + (k : Int)) % (((ds.map V.int).length : Nat) : Int)) = some (.int (ds.getD (k % ds.length) 0))
      rw [e0, hml, ← Int.natCast_emod]
      exact at_ints hget), _, rfl, _, rfl, r, _, rfl, .inl hS1, _, _, rfl, rfl, ⟨by show (0 : Int) < (((ds.map V.int).length : Nat) : Int); omega, by show (((ds.map V.int).length : Nat) : Int) < 1073741824; omega⟩, _, _, rfl, rfl, .inl ⟨_, rfl, _, rfl, c, _, rfl, .inl (s1.seq hL2), _, _, rfl, rfl, _, _, rfl, rfl, (by show (0 : Int) < ((1 : Nat) : Int) + 1; decide), ?_⟩⟩
    have e1 : (((0 : Int) + (k : Int)) / (((ds.map V.int).length : Nat) : Int)) = ((k / ds.length : Nat) : Int) := by rw [e0, hml, Int.natCast_ediv]
    have e2 : ((((([z] : List V)).length : Nat) : Int) + 1) = 2 := rfl
    refine ⟨_, rfl, _, _, rfl, rfl, _, rfl, ?_⟩
    have ev : decide ((0 : Int) < (ds.getD (k % ds.length) 0 + ((0 : Int) + (k : Int)) / (((ds.map V.int).length : Nat) : Int)) % (((([z] : List V)).length : Int) + 1)) = ch k := by
      show _ = decide _
      rw [e1]
      rfl
    rw [show decide ((0 : Int) < (ds.getD (k % ds.length) 0 + ((0 : Int) + (k : Int)) / (((ds.map V.int).length : Nat) : Int)) % (((([z] : List V)).length : Int) + 1)) = ch k from ev]
    have fs : fallN D U ch (k + 1) = if ch k = true then wr (fallN D U ch k) q1.1 q1.2 else fallN D U ch k := by rw [fallN, hq1]
    cases hc : ch k with
    | true =>
      refine iteT ?_
      have hc' : (0 : Int) < (ds.getD (k % ds.length) 0 + ((0 : Int) + (k : Int)) / (((ds.map V.int).length : Nat) : Int)) % (((([z] : List V)).length : Int) + 1) := of_decide_eq_true (ev.trans hc)
      have e3 : (ds.getD (k % ds.length) 0 + ((0 : Int) + (k : Int)) / (((ds.map V.int).length : Nat) : Int)) % (((([z] : List V)).length : Int) + 1) - 1 = 0 := by
        have e4 : (((([z] : List V)).length : Int) + 1) = 2 := rfl
        rw [e4] at hc' ⊢
        omega
      refine ⟨_, rfl, _, rfl, _, rfl, _, rfl, _, _, rfl, rfl, c, _, _, z, rfl, rfl, s1.seq hL2, (by
        show atI [z] ((ds.getD (k % ds.length) 0 + ((0 : Int) + (k : Int)) / (((ds.map V.int).length : Nat) : Int)) % (((([z] : List V)).length : Int) + 1) - 1) = some z
        rw [e3]
        rfl), x, fallN D U ch k, z, q1.1, q1.2, rfl, hd1, hz.same s1, by omega, ?_, fun H2 x2 s2 nx2 hd2 => ?_⟩
      · exact Nat.le_trans (fallN_len (B := 400000) hDl hUi k) (by decide)
      · refine ⟨x2, _, _, _, _, rfl, s1.trans s2, ?_, .inr (s1.free nx2)⟩
        rw [fs, hc, if_pos rfl]
        exact hd2
    | false =>
      refine iteF ?_
      refine ⟨x, _, _, _, _, rfl, s1, ?_, hxa⟩
      rw [fs, hc, if_neg (by decide)]
      exact hd1
  · rintro σ H1 ⟨x, u4, u5, u6, u7, rfl, s1, hd1, hxa⟩
    rw [hul] at hd1
    exact ⟨_, rfl, q H1 x ch s1 hxa hd1⟩
end
end Mj
set_option Elab.async false
set_option linter.all false
set_option maxRecDepth 100000
set_option maxHeartbeats 4000000
namespace Mj
open PySem L2
theorem kb_ll' : kitB "list" "list" = some true := kb_ll
theorem eqv_recs {rs : List PyData} (h : ∀ r ∈ rs, OkD 2 r) : PyData.eqv (.list rs) (.list rs) = true := by
  have := shaped_recs h
  exact SeqAt.eqv_refl _ (SeqAt.canLay_of_shaped this)
def Poss (ra rb rc : List PyData) (rw : Bool) : Prop := ra = rb ∨ ra = rc ∨ (rw = false ∧ rb.length ≤ ra.length ∧ ra.length ≤ rc.length ∧ ra = rc.take ra.length)
section
variable {P : Program} {w : World} {K : PySem.W.Frag} {mg : Str → Option Value} {base : Heap} {C : Addr} {f : Addr} {fd : FuncData}
/-! ## _law_is_possible -/
def spLPoss (K : PySem.W.Frag) : Sp := fun vs H Q _ => ∃ (a b c : Addr) (xs ys zs : List V) (ra rb rc : List PyData) (rw : Bool), vs = [.ref a, .ref b, .ref c, .bl rw] ∧ H a = some (.lst xs) ∧ H b = some (.lst ys) ∧ H c = some (.lst zs) ∧ DpAll K H xs ra ∧ DpAll K H ys rb ∧ DpAll K H zs rc ∧
  (∀ r ∈ ra, OkD 2 r) ∧ (∀ r ∈ rb, OkD 2 r) ∧ (∀ r ∈ rc, OkD 2 r) ∧ Poss ra rb rc rw ∧ ∀ H', Same H H' → Q (.bl true) H'
theorem ok_lposs (F : Fun K "_law_is_possible" "_law_is_possible" sLPoss f fd) (T : Txt K mg C) : FnOk P w K mg base CX0 1 f fd ["_law_actual", "_law_before", "_law_after", "_law_rewrites"] (spLPoss K) := by
  refine F.ok scLPoss (fun vs H Q E h => by obtain ⟨a, b, c, xs, ys, zs, ra, rb, rc, rw, rfl, _⟩ := h; rfl) (fun cdv A outer s0 H vs Q E hr h => ?_)
  obtain ⟨a, b, c, xs, ys, zs, ra, rb, rc, rw, rfl, ha, hb, hc, da, db, dc, oa, ob, oc, hp, q⟩ := h
  have nd := scLPoss.nd
  have hu : _ + 64 < cLine := hr.units
  refine ⟨_, (pss_cons ((ps_if (PW.pt (pw_or (pt_cmpR (op_eqD hu) (pv 0) (pv 1) (nomark _)) (pw_or1 (pt_cmpR (op_eqD hu) (pv 0) (pv 2) (nomark _))))) (pss_one ((ps_ret (pe_bl)))) pss_nil)) (pss_cons ((ps_if (PW.pt (pw_or (pt_val (pv 3)) (pw_or (pt_cmpR op_lt (pe_callB call_len_seq (by rfl) T.b_len PySem.boot_len (pa_cons (pv 0) pa_nil)) (pe_callB call_len_seq (by rfl) T.b_len PySem.boot_len (pa_cons (pv 1) pa_nil)) (nomark _)) (pw_or1 (pt_cmpR op_gt (pe_callB call_len_seq (by rfl) T.b_len PySem.boot_len (pa_cons (pv 0) pa_nil)) (pe_callB call_len_seq (by rfl) T.b_len PySem.boot_len (pa_cons (pv 2) pa_nil)) (nomark _)))))) (pss_one ((ps_ret (pe_bl)))) pss_nil)) (pss_one ((ps_ret (pe_cmpR (op_eqD hu) (pv 0) (pe_slice sl_list (pv 2) po_none (po_some (pe_callB call_len_seq (by rfl) T.b_len PySem.boot_len (pa_cons (pv 0) pa_nil)))) (nomark _))))))), ?_⟩
  have hal := da.length
  have hbl := db.length
  have hcl := dc.length
  have A1 : Dp K H (.ref a) (.list ra) := .lst (SqL.of ha) da
  refine ⟨_, rfl, _, rfl, _, _, A1, .lst (SqL.of hb) db, shaped_recs oa, shaped_recs ob, _, rfl, ?_⟩
  refine ite2 (fun _ => q H (Same.refl H)) (fun n1 => ?_)
  refine ⟨_, rfl, _, rfl, _, _, A1, .lst (SqL.of hc) dc, shaped_recs oa, shaped_recs oc, _, rfl, ?_⟩
  refine ite2 (fun _ => q H (Same.refl H)) (fun n2 => ?_)
  rcases hp with e | e | ⟨rfl, l1, l2, e⟩
  · rw [e] at n1
    exact absurd (eqv_recs ob) n1
  · rw [e] at n2
    exact absurd (eqv_recs oc) n2
  · refine ⟨_, rfl, _, rfl, iteF ?_⟩
    refine ⟨_, rfl, a, _, rfl, .inl (SqL.of ha), _, rfl, b, _, rfl, .inl (SqL.of hb), _, _, rfl, rfl, _, rfl, ?_⟩
    rw [decide_eq_false (show ¬ (xs.length : Int) < (ys.length : Int) by omega)]
    refine iteF ?_
    refine ⟨_, rfl, a, _, rfl, .inl (SqL.of ha), _, rfl, c, _, rfl, .inl (SqL.of hc), _, _, rfl, rfl, _, rfl, ?_⟩
    rw [decide_eq_false (show ¬ (zs.length : Int) < (xs.length : Int) by omega)]
    refine iteF ?_
    refine ⟨_, rfl, _, rfl, _, rfl, a, _, rfl, .inl (SqL.of ha), (xs.length : Int), rfl, c, _, rfl, SqL.of hc, fun p np => ?_⟩
    rw [cut_to]
    have s1 := same_new np (.lst (zs.take xs.length))
    have dt : DpAll K H (zs.take xs.length) ra := by
      have := dc.take xs.length
      rw [hal, ← e] at this
      rw [hal]
      exact this
    refine ⟨_, _, A1.same s1, .lst (SqL.of upd_same) (DpAll.same s1 dt), shaped_recs oa, shaped_recs oa, ?_⟩
    rw [eqv_recs oa]
    exact q _ s1
/-! ## _law_opens -/
theorem rec_no (b g s e : Nat) (l : Addr) : (jf b g s e l).lookup ("records" : Str) = none := jf_no _ _ _ _ _ (by decide +kernel) (by decide +kernel) (by decide +kernel) (by decide +kernel) (by decide +kernel)
theorem made_same {H H2 : Hp} {x dx : Addr} (nx : H x = none) (nd : H dx = none) (o : Off x (upd (upd H dx (.own x)) x (.ins C dx [])) H2) : Same H H2 := Same.made nx nd fun b o' e n => o b o' n e
def spLOpens (K : PySem.W.Frag) : Sp := fun vs H Q _ => ∃ (a b c : Addr) (D : Disk) (bt : Nat) (ys zs : List V) (rb rc : List PyData) (rw : Bool) (g s hb e : Nat) (rs : List PyData), vs = [.ref a, nV bt, .ref b, .ref c, .bl rw] ∧ DiskAt K H a D ∧ (∀ x ∈ D, x.Ok) ∧ Heads D g s hb ∧ Reads D g s 0 hb rs e ∧ rs.length ≤ 100000 ∧
  H b = some (.lst ys) ∧ H c = some (.lst zs) ∧ DpAll K H ys rb ∧ DpAll K H zs rc ∧ (∀ r ∈ rb, OkD 2 r) ∧ (∀ r ∈ rc, OkD 2 r) ∧ Poss rs rb rc rw ∧
  ∀ H' r us, Same H H' → H r = none → H' r = some (.lst us) → DpAll K H' us rs → Q (.ref r) H'
theorem ok_lopens (F : Fun K "_law_opens" "_law_opens" sLOpens f fd) (T : Txt K mg C) (cM : C8.Mak P w K mg base 12 "Journal" C (spInit K C) []) (cR : C8.Met P w K mg base 1 C "records" (spJRecs K C) []) (cP : C8.Cal P w K mg base 1 "_law_is_possible" (spLPoss K) []) :
    FnOk P w K mg base CX0 14 f fd ["_law_disk", "_law_boot", "_law_before", "_law_after", "_law_rewrites"] (spLOpens K) := by
  refine F.ok scLOpens (fun vs H Q E h => by obtain ⟨a, b, c, D, bt, ys, zs, rb, rc, rw, g, s, hb, e, rs, rfl, _⟩ := h; rfl) (fun cdv A outer s0 H vs Q E hr h => ?_)
  obtain ⟨a, b, c, D, bt, ys, zs, rb, rc, rw, g, s, hb, e, rs, rfl, hD, ok, hH, hR, hrl, hB, hC, db, dc, ob, oc, hp, q⟩ := h
  have nd := scLOpens.nd
  have hu : _ + 64 < cLine := hr.units
  refine ⟨_, (pss_cons ((ps_set (i := 5) nd rfl (Or.inl rfl) (C8.pe_mt0 cR hr (by omega) (C8.pe_mk cM hr (by omega) (by rfl) (pa_cons (pv 0) (pa_cons (pv 1) pa_nil)))))) (pss_cons ((ps_if (PW.pt (pw_or (pt_not (pt_val (pe_callB call_isi (by rfl) T.b_isinstance (by decide +kernel) (pa_cons (pv 5) (pa_cons (pe_bltn (v := .ty "list") (by rfl) T.b_list (by decide +kernel) rfl) pa_nil))))) (pw_or1 (pt_not (pt_val (C8.pe_c cP hr (by omega) (by rfl) (pa_cons (pv 5) (pa_cons (pv 2) (pa_cons (pv 3) (pa_cons (pv 4) pa_nil)))))))))) (pss_one ((ps_ret (pe_non)))) pss_nil)) (pss_cons ((ps_if (pt_cmpR (op_neD hu) (C8.pe_mt0 cR hr (by omega) (C8.pe_mk cM hr (by omega) (by rfl) (pa_cons (pv 0) (pa_cons (pe_op op_add (pv 1) (pe_int)) pa_nil)))) (pv 5) (nomark _)) (pss_one ((ps_ret (pe_non)))) pss_nil)) (pss_one ((ps_ret (pv 5))))))), ?_⟩
  have okr := hR.ok
  refine ⟨_, rfl, _, rfl, fun x dx nx ndx nex => ?_⟩
  have s0' : Same H (upd (upd H dx (.own x)) x (.ins C dx [])) := (same_new ndx _).trans (same_new (by rw [upd_ne nex.symm]; exact nx) _)
  refine ⟨x, dx, a, D, bt, g, s, hb, e, rs, rfl, upd_same, hD.same s0', ok, hH, hR, hrl, fun H1 l us off nl hx1 hl1 hd1 => ⟨rfl, ?_⟩⟩
  have S1 : Same H H1 := made_same nx ndx off
  refine ⟨x, dx, _, rfl, hx1, rec_no .., ?_⟩
  refine ⟨x, l, bt, g, s, e, rs, rfl, ⟨dx, us, hx1, hl1, hd1⟩, okr, fun H2 r us2 s2 nr hr2 hd2 => ?_⟩
  have S2 := S1.trans s2
  refine ⟨_, rfl, _, _, _, _, true, rfl, .ty "list", .base (.lst hr2), kit_ty kb_ll, _, rfl, iteF ?_⟩
  refine ⟨_, rfl, _, rfl, _, rfl, _, rfl, r, b, c, us2, ys, zs, rs, rb, rc, rw, rfl, hr2, S2 _ _ hB, S2 _ _ hC, hd2, DpAll.same S2 db, DpAll.same S2 dc, okr, ob, oc, hp, fun H3 s3 => ?_⟩
  refine ⟨_, rfl, iteF ?_⟩
  have S3 := S2.trans s3
  -- the second opening
  refine ⟨_, rfl, _, rfl, _, _, rfl, rfl, fun x2 dx2 nx2 ndx2 nex2 => ?_⟩
  have s0'' : Same H3 (upd (upd H3 dx2 (.own x2)) x2 (.ins C dx2 [])) := (same_new ndx2 _).trans (same_new (by rw [upd_ne nex2.symm]; exact nx2) _)
  refine ⟨x2, dx2, a, D, bt + 1, g, s, hb, e, rs, rfl, upd_same, (hD.same S3).same s0'', ok, hH, hR, hrl, fun H4 l4 us4 off4 nl4 hx4 hl4 hd4 => ⟨rfl, ?_⟩⟩
  have s4 : Same H3 H4 := made_same nx2 ndx2 off4
  refine ⟨x2, dx2, _, rfl, hx4, rec_no .., ?_⟩
  refine ⟨x2, l4, bt + 1, g, s, e, rs, rfl, ⟨dx2, us4, hx4, hl4, hd4⟩, okr, fun H5 r5 us5 s5 nr5 hr5 hd5 => ?_⟩
  have S5 := s3.trans (s4.trans s5)
  refine ⟨_, rfl, _, _, .lst (SqL.of hr5) hd5, .lst (SqL.of (S5 _ _ hr2)) (DpAll.same S5 hd2), shaped_recs okr, shaped_recs okr, _, rfl, ?_⟩
  rw [eqv_recs okr]
  refine iteF ?_
  exact ⟨_, rfl, q H5 r us2 (S2.trans S5) (S1.free nr) (S5 _ _ hr2) (DpAll.same S5 hd2)⟩
end
end Mj
set_option Elab.async false
set_option linter.all false
set_option maxRecDepth 100000
set_option maxHeartbeats 8000000
namespace Mj
open PySem L2
theorem app_no (b g s e : Nat) (l : Addr) : (jf b g s e l).lookup ("append" : Str) = none := jf_no _ _ _ _ _ (by decide +kernel) (by decide +kernel) (by decide +kernel) (by decide +kernel) (by decide +kernel)
theorem rew_no (b g s e : Nat) (l : Addr) : (jf b g s e l).lookup ("rewrite" : Str) = none := jf_no _ _ _ _ _ (by decide +kernel) (by decide +kernel) (by decide +kernel) (by decide +kernel) (by decide +kernel)
theorem off2_kt {p l C dx : Addr} {fs : List (Str × V)} {us : List V} {H H' : Hp} (o : Off2 p l H H') (hp : H p = some (.ins C dx fs)) (hl : H l = some (.lst us)) : KT H H' := fun b ys r => by
  have np : b ≠ p := fun z => by
    rcases r with r | ⟨ob, r⟩ <;> rw [z, hp] at r <;> cases r
  have nl : b ≠ l := fun z => by
    rcases r with r | ⟨ob, r⟩ <;> rw [z, hl] at r <;> cases r
  rcases r with r | ⟨ob, r⟩
  · exact .inl (o b _ np nl r)
  · exact .inr ⟨ob, o b _ np nl r⟩
theorem DiskAt.off {K : PySem.W.Frag} {p l a C dx : Addr} {fs : List (Str × V)} {us : List V} {H H' : Hp} {D : Disk} (h : DiskAt K H a D) (o : Off2 p l H H') (hp : H p = some (.ins C dx fs)) (hl : H l = some (.lst us)) (n : a ≠ l) : DiskAt K H' a D := by
  obtain ⟨vs, h1, h2⟩ := h
  exact ⟨vs, o a _ (ne_of h1 hp (by intro z; cases z)) n h1, DpAll.kt (off2_kt o hp hl) (disk_imm D) h2⟩
/-- between two turns of the law -/
def LawInv (K : PySem.W.Frag) (C a aDr : Addr) (ds : List Int) (i : Nat) (σ : L2.St) (H : Hp) : Prop :=
  ∃ (D : Disk) (b g s e : Nat) (rs : List PyData) (p l aD aR : Addr) (us : List V) (u6 u7 u8 u9 u10 u11 u12 u13 u14 u15 : Option V),
    σ = [some (.ref a), some (.ref aDr), some (nV b), some (.ref aD), some (.ref aR), some (.ref p), u6, u7, u8, u9, u10, u11, u12, u13, u14, u15] ∧
    St0 D b g s e rs ∧ Bds D b g e rs i ∧ DiskAt K H aD D ∧ H aR = some (.lst us) ∧ DpAll K H us rs ∧ JAt K C H p l b g s e rs ∧ aD ≠ l ∧ aR ≠ l ∧ aDr ≠ l ∧ H aDr = some (.lst (ds.map V.int))
theorem JAt.same {K : PySem.W.Frag} {C : Addr} {H H' : Hp} {p l : Addr} {b g s e : Nat} {rs : List PyData} (h : JAt K C H p l b g s e rs) (k : Same H H') : JAt K C H' p l b g s e rs := by
  obtain ⟨dx, us, h1, h2, h3⟩ := h
  exact ⟨dx, us, k _ _ h1, k _ _ h2, DpAll.same k h3⟩
theorem LawInv.same {K : PySem.W.Frag} {C a aDr : Addr} {ds : List Int} {i : Nat} {σ : L2.St} {H H' : Hp} (h : LawInv K C a aDr ds i σ H) (k : Same H H') : LawInv K C a aDr ds i σ H' := by
  obtain ⟨D, b, g, s, e, rs, p, l, aD, aR, us, u6, u7, u8, u9, u10, u11, u12, u13, u14, u15, e1, e2, e3, hD, hR, hdR, hJ, n1, n2, n3, hDr⟩ := h
  exact ⟨D, b, g, s, e, rs, p, l, aD, aR, us, u6, u7, u8, u9, u10, u11, u12, u13, u14, u15, e1, e2, e3, hD.same k, k _ _ hR, DpAll.same k hdR, hJ.same k, n1, n2, n3, k _ _ hDr⟩
theorem ne_ins {H : Hp} {q p C dx : Addr} {fs : List (Str × V)} {us : List V} (h : H q = some (.lst us)) (hp : H p = some (.ins C dx fs)) : q ≠ p := ne_of h hp (by intro z; cases z)
theorem cut_part (ds : List Int) (i : Nat) : cutV (ds.map V.int) (some (1 + 46 * (0 + (i : Int)))) (some (47 + 46 * (0 + (i : Int)))) = ((ds.drop (1 + 46 * i)).take 46).map V.int := by
  have := cut_mid (ds.map V.int) (1 + 46 * i) (47 + 46 * i)
  rw [show ((1 + 46 * i : Nat) : Int) = 1 + 46 * (0 + (i : Int)) by omega, show ((47 + 46 * i : Nat) : Int) = 47 + 46 * (0 + (i : Int)) by omega] at this
  rw [this, ← List.map_drop, ← List.map_take, show 47 + 46 * i - (1 + 46 * i) = 46 by omega]
theorem cut_rec (ds : List Int) (k : Nat) : cutV (ds.map V.int) (some (4 + 8 * (0 + (k : Int)))) (some (12 + 8 * (0 + (k : Int)))) = ((ds.drop (4 + 8 * k)).take 8).map V.int := by
  have := cut_mid (ds.map V.int) (4 + 8 * k) (12 + 8 * k)
  rw [show ((4 + 8 * k : Nat) : Int) = 4 + 8 * (0 + (k : Int)) by omega, show ((12 + 8 * k : Nat) : Int) = 12 + 8 * (0 + (k : Int)) by omega] at this
  rw [this, ← List.map_drop, ← List.map_take, show 12 + 8 * k - (4 + 8 * k) = 8 by omega]
theorem InB.sub {ds : List Int} (h : InB ds) (i j : Nat) : InB ((ds.drop i).take j) := fun d hd => h d (List.mem_of_mem_drop (List.mem_of_mem_take hd))
section
variable {P : Program} {w : World} {K : PySem.W.Frag} {mg : Str → Option Value} {base : Heap} {C : Addr} {f : Addr} {fd : FuncData}
def spLaw (K : PySem.W.Frag) : Sp := fun vs H Q _ => ∃ (a : Addr) (ns : List Int), vs = [.ref a] ∧ SqL K H a (ns.map V.int) ∧ ns.length ≤ 63 ∧ ∀ H', Q (.bl true) H'
theorem ok_law (F : Fun K "law" "law" sLaw f fd) (T : Txt K mg C) (cDr : C8.Cal P w K mg base 1 "_law_draws" (spDraws K) []) (cRec : C8.Cal P w K mg base 1 "_law_record" (spRecord K) []) (cRun : C8.Cal P w K mg base 3 "_law_run_steps" (spLRun K) []) (cFall : C8.Cal P w K mg base 2 "_law_fall" (spLFall K) [])
    (cOp : C8.Cal P w K mg base 14 "_law_opens" (spLOpens K) []) (cM : C8.Mak P w K mg base 12 "Journal" C (spInit K C) []) (cR : C8.Met P w K mg base 1 C "records" (spJRecs K C) []) (cA : C8.Met P w K mg base 8 C "append" (spJApp K C) []) (cW : C8.Met P w K mg base 8 C "rewrite" (spJRew K C) []) :
    FnOk P w K mg base CX0 15 f fd ["_law_script"] (spLaw K) := by
  refine F.ok scLaw (fun vs H Q E h => by obtain ⟨a, ns, rfl, _⟩ := h; rfl) (fun cdv A outer s0 H vs Q E hr h => ?_)
  obtain ⟨a, ns, rfl, hS, hlen, q⟩ := h
  have nd := scLaw.nd
  have hu : _ + 64 < cLine := hr.units
  refine ⟨_, (pss_cons ((ps_set (i := 1) nd rfl (Or.inl rfl) ((C8.pe_c cDr hr (by omega) (by rfl) (pa_cons (pv 0) (pa_cons (pe_int) pa_nil)))))) (pss_cons ((ps_set (i := 2) nd rfl (Or.inl rfl) (pe_int))) (pss_cons ((ps_set (i := 3) nd rfl (Or.inl rfl) (pe_lst pa_nil))) (pss_cons ((ps_set (i := 4) nd rfl (Or.inl rfl) (pe_lst pa_nil))) (pss_cons ((ps_set (i := 5) nd rfl (Or.inl rfl) (C8.pe_mk cM hr (by omega) (by rfl) (pa_cons (pv 3) (pa_cons (pv 2) pa_nil))))) (pss_cons ((ps_for PassesOwn.never rfl ((pi_range1 (by rfl) T.b_range (pa_cons ((pe_op op_add (pe_int) ((pe_op op_mod ((pe_callTy call_int1 (by rfl) T.b_int (by decide +kernel) (pa_cons ((pe_ix ix_list (pv 1) (pe_int) (fun _ _ => rfl))) pa_nil))) (pe_int))))) pa_nil))) ((pg_name (i := 6) nd rfl (Or.inl rfl))) (pss_cons (ps_set (i := 7) nd rfl (Or.inr rfl) (pe_slice sl_list (pv 1) (po_some (pe_op op_add (pe_int) ((pe_op op_mul (pe_int) (pv 6))))) (po_some (pe_op op_add (pe_int) ((pe_op op_mul (pe_int) (pv 6))))))) (pss_cons (ps_setLc (i := 8) (own := [("_law_k", 15)]) (g := gName 15) (tt := tYes) rfl nd rfl rfl (sw_true rfl rfl rfl (by decide +kernel)) (pi_range1 (by rfl) T.b_range (pa_cons ((pe_op op_mod ((pe_callTy call_int1 (by rfl) T.b_int (by decide +kernel) (pa_cons ((pe_ix ix_list (pv 7) (pe_int) (fun _ _ => rfl))) pa_nil))) (pe_int))) pa_nil)) (blkOk_by (own := [("_law_k", 15)]) (N := ["_law_script", "_law_draws_here", "_law_boot", "_law_disk", "_law_records", "_law_journal", "_law_turn", "_law_part", "_law_added", "_law_rewrites", "_law_after", "_law_steps", "_law_count", "_law_left", "_law_before", "_law_k"]) (sc := defScope sLaw) (by decide +kernel))
        (fun _ _ _ _ _ => (pg_name (i := 15) nd rfl (Or.inl rfl))) (fun _ _ _ _ _ => pts_nil) (fun _ _ _ _ _ => (C8.pe_c cRec hr (by omega) (by rfl) (pa_cons (pe_slice (show SlR _ (rSlL K) from sl_list) (pv 7) (po_some (pe_op op_add (pe_int) ((pe_op op_mul (pe_int) (pv 15))))) (po_some (pe_op op_add (pe_int) ((pe_op op_mul (pe_int) (pv 15)))))) pa_nil)))) (pss_cons ((ps_set (i := 9) nd rfl (Or.inl rfl) (pe_cmpR op_eq (pe_op op_mod ((pe_ix ix_list (pv 7) (pe_int) (fun _ _ => rfl))) (pe_int)) pe_int (nomark _)))) (C8.pss_cut ((ps_if (pt_val (pv 9)) (pss_cons ((ps_set (i := 10) nd rfl (Or.inl rfl) (pv 8))) (pss_one ((ps_set (i := 11) nd rfl (Or.inl rfl) (C8.pe_mt cW hr (by omega) (pv 5) (pa_cons (pv 8) pa_nil)))))) (pss_cons ((ps_set (i := 10) nd rfl (Or.inl rfl) ((pe_op op_cat (pv 4) (pv 8))))) (pss_one ((ps_set (i := 11) nd rfl (Or.inl rfl) (C8.pe_mt cA hr (by omega) (pv 5) (pa_cons (pv 8) pa_nil)))))))) (C8.pss_cut ((ps_if ((pt_cmpR op_eq (pe_op op_mod ((pe_ix ix_list (pv 7) (pe_int) (fun _ _ => rfl))) (pe_int)) pe_int (nomark _))) (pss_cons ((ps_set (i := 3) nd rfl (Or.inl rfl) ((pe_ix ix_tup ((C8.pe_c cRun hr (by omega) (by rfl) (pa_cons (pv 3) (pa_cons (pv 11) (pa_cons ((pe_callB call_len_seq (by rfl) T.b_len PySem.boot_len (pa_cons (pv 11) pa_nil))) pa_nil))))) (pe_int) (fun _ _ => rfl))))) (pss_one ((ps_set (i := 4) nd rfl (Or.inl rfl) (pv 10))))) (pss_cons ((ps_set (i := 12) nd rfl (Or.inl rfl) ((pe_op op_mod ((pe_callTy call_int1 (by rfl) T.b_int (by decide +kernel) (pa_cons ((pe_ix ix_list (pv 7) (pe_int) (fun _ _ => rfl))) pa_nil))) ((pe_op op_add ((pe_callB call_len_seq (by rfl) T.b_len PySem.boot_len (pa_cons (pv 11) pa_nil))) (pe_int))))))) (pss_cons ((ps_set (i := 13) nd rfl (Or.inl rfl) ((C8.pe_c cRun hr (by omega) (by rfl) (pa_cons (pv 3) (pa_cons (pv 11) (pa_cons (pv 12) pa_nil))))))) (pss_cons ((ps_set (i := 14) nd rfl (Or.inl rfl) (pv 4))) (C8.pss_cut ((ps_if ((pt_cmpR op_eq (pv 12) (pe_callB call_len_seq (by rfl) T.b_len PySem.boot_len (pa_cons (pv 11) pa_nil)) (nomark _))) (pss_one ((ps_set (i := 14) nd rfl (Or.inl rfl) (pv 10)))) pss_nil)) (pss_cons ((ps_set (i := 3) nd rfl (Or.inl rfl) ((C8.pe_c cFall hr (by omega) (by rfl) (pa_cons ((pe_ix ix_tup (pv 13) (pe_int) (fun _ _ => rfl))) (pa_cons ((pe_ix ix_tup (pv 13) (pe_int) (fun _ _ => rfl))) (pa_cons (pe_slice sl_list (pv 7) (po_some pe_int) po_none) pa_nil))))))) (pss_cons ((ps_set (i := 2) nd rfl (Or.inl rfl) ((pe_op op_add (pv 2) (pe_int))))) (pss_cons ((ps_set (i := 4) nd rfl (Or.inl rfl) ((C8.pe_c cOp hr (by omega) (by rfl) (pa_cons (pv 3) (pa_cons (pv 2) (pa_cons (pv 14) (pa_cons (pv 10) (pa_cons (pv 9) pa_nil))))))))) (pss_cons ((ps_if (pt_cmpR op_isN (pv 4) pe_non (nomark _)) (pss_one ((ps_ret (pe_bl)))) pss_nil)) (pss_cons ((ps_set (i := 2) nd rfl (Or.inl rfl) ((pe_op op_add (pv 2) (pe_int))))) (pss_one ((ps_set (i := 5) nd rfl (Or.inl rfl) (C8.pe_mk cM hr (by omega) (by rfl) (pa_cons (pv 3) (pa_cons (pv 2) pa_nil))))))))))))))))) (pss_one ((ps_if (pt_cmpR (op_neD hu) (C8.pe_mt0 cR hr (by omega) (pv 5)) (pv 4) (nomark _)) (pss_one ((ps_ret (pe_bl)))) pss_nil)))))))))) (pss_one ((ps_ret (pe_cmpR (op_eqD hu) (C8.pe_mt0 cR hr (by omega) (C8.pe_mk cM hr (by omega) (by rfl) (pa_cons (pv 3) (pa_cons (pe_op op_add (pv 2) (pe_int)) pa_nil)))) (pv 4) (nomark _))))))))))), ?_⟩
  refine ⟨_, rfl, a, ns, rfl, hS, hlen, fun H1 aDr ds s1 nDr hDr dl db => ?_⟩
  refine ⟨sz (Nat.zero_le _), fun aD naD => ?_⟩
  have s2 := same_new naD (.lst [])
  refine ⟨sz (Nat.zero_le _), fun aR naR => ?_⟩
  have s3 := same_new naR (.lst [])
  refine ⟨_, rfl, _, rfl, fun p dx np ndx nex => ?_⟩
  have hD3 : (upd (upd H1 aD (.lst [])) aR (.lst [])) aD = some (.lst []) := s3 _ _ upd_same
  have hR3 := upd_same (H := upd H1 aD (.lst [])) (a := aR) (o := HO.lst [])
  have hDr3 := s3 _ _ (s2 _ _ hDr)
  generalize upd (upd H1 aD (.lst [])) aR (.lst []) = H3 at np ndx hD3 hR3 hDr3 ⊢
  have sI : Same H3 (upd (upd H3 dx (.own p)) p (.ins C dx [])) := (same_new ndx _).trans (same_new (by rw [upd_ne nex.symm]; exact np) _)
  obtain ⟨hbI, _, hHI, hRI⟩ := St0.empty.rd
  refine ⟨p, dx, aD, [], 1, 0, 2, hbI, 2, [], rfl, upd_same, ⟨[], sI _ _ hD3, .nil⟩, (fun x hx => nomatch hx), hHI, hRI, by decide, fun H4 l us off nl hp4 hl4 hd4 => ⟨rfl, ?_⟩⟩
  have S4 : Same H3 H4 := made_same np ndx off
  have nl3 : H3 l = none := sI.free nl
  have inv0 : LawInv K C a aDr ds 0 [some (.ref a), some (.ref aDr), some (nV 1), some (.ref aD), some (.ref aR), some (.ref p), none, none, none, none, none, none, none, none, none, none] H4 :=
    ⟨[], 1, 0, 2, 2, [], p, l, aD, aR, [], none, none, none, none, none, none, none, none, none, none, rfl, St0.empty, ⟨by decide, by decide, by decide, by decide, by decide⟩, ⟨[], S4 _ _ hD3, .nil⟩, S4 _ _ hR3, .nil, ⟨dx, us, hp4, hl4, hd4⟩,
      ne_of_none hD3 nl3, ne_of_none hR3 nl3, ne_of_none hDr3 nl3, S4 _ _ hDr3⟩
  obtain ⟨d0, g0, p0, q0⟩ := db.get (i := 0) (by omega)
  have hSDr : SqL K H4 aDr (ds.map V.int) := SqL.of (S4 _ _ hDr3)
  refine ⟨_, rfl, aDr, _, _, _, rfl, rfl, hSDr, at_ints g0, .inl ⟨_, rfl, _, _, rfl, rfl, (by show (0 : Int) < 11; decide), _, _, rfl, rfl, 2 + d0 % 11, rfl, by omega, by omega, ?_⟩⟩
  have hn12 : (2 + d0 % 11).toNat ≤ 12 := by omega
  generalize (2 + d0 % 11).toNat = N at hn12 ⊢
  refine for_range (lo := 0) (n := N) (fun i σ H' => LawInv K C a aDr ds i σ H') inv0 ?_ ?_
  · clear inv0 hSDr S4 nl3 hp4 hl4 hd4 off nl sI hD3 hR3 hDr3 naR naD s2 s3 np ndx nex hHI hRI
    clear us l p dx aR aD H4 H3
    rintro i σ H5 hi ⟨D, b, g, s, e, rs, p, l, aD, aR, us, u6, u7, u8, u9, u10, u11, u12, u13, u14, u15, rfl, hSt, hBd, hD, hR, hdR, ⟨dx, rus, hp, hl, hdl⟩, nDl, nRl, nDrl, hDr5⟩
    have hi11 : i ≤ 11 := by omega
    obtain ⟨B1, B2, B3, B4, B5⟩ := hBd
    have okr := hSt.recs
    have hse := hSt.end_eq
    have h2s := hSt.s2
    -- part
    refine ⟨_, rfl, _, rfl, _, _, rfl, rfl, .inl ⟨by decide, by decide⟩, _, _, rfl, rfl, _, rfl, _, rfl, _, _, rfl, rfl, .inl ⟨by decide, by decide⟩, _, _, rfl, rfl, _, rfl, aDr, _, rfl, SqL.of hDr5, fun aP nP => ?_⟩
    have cp := cut_part ds i
    have hpl : ((ds.drop (1 + 46 * i)).take 46).length = 46 := by rw [List.length_take, List.length_drop]; omega
    have hpb := db.sub (1 + 46 * i) 46
    rw [show cutV (ds.map V.int) (some (1 + 46 * (0 + (i : Int)))) (some (47 + 46 * (0 + (i : Int)))) = ((ds.drop (1 + 46 * i)).take 46).map V.int from cp]
    generalize (ds.drop (1 + 46 * i)).take 46 = pt at hpl hpb ⊢
    have s6 := same_new nP (.lst (pt.map V.int))
    have hP6 := upd_same (H := H5) (a := aP) (o := HO.lst (pt.map V.int))
    have gpt : ∀ j : Nat, j < 46 → ∃ d, atI (pt.map V.int) (j : Int) = some (.int d) ∧ 0 ≤ d ∧ d < 997 := fun j hj => by
      obtain ⟨d, h1, h2, h3⟩ := hpb.get (i := j) (by omega)
      exact ⟨d, at_ints h1, h2, h3⟩
    obtain ⟨e0, ge0, pe0, qe0⟩ := gpt 0 (by decide)
    obtain ⟨e1, ge1, pe1, qe1⟩ := gpt 1 (by decide)
    obtain ⟨e2, ge2, pe2, qe2⟩ := gpt 2 (by decide)
    obtain ⟨e3, ge3, pe3, qe3⟩ := gpt 3 (by decide)
    generalize upd H5 aP (.lst (pt.map V.int)) = H6 at s6 hP6 ⊢
    -- added
    refine ⟨_, rfl, aP, _, _, _, rfl, rfl, SqL.of hP6, ge1, .inl ⟨_, rfl, _, _, rfl, rfl, (by show (0 : Int) < 4; decide), e1 % 4, rfl, by omega, by omega, fun aA nA => ?_⟩⟩
    have hm3 : (e1 % 4).toNat ≤ 3 := by omega
    generalize (e1 % 4).toNat = m at hm3 ⊢
    refine lc_range (lo := 0) (n := m) (fun k H' => ∃ (add : List PyData) (xs : List V), add.length = k ∧ (∀ r ∈ add, OkD 2 r) ∧ Same H6 H' ∧ H' aA = some (.lst xs) ∧ DpAll K H' xs add)
      ⟨[], [], rfl, (fun r hr => nomatch hr), same_new nA _, upd_same, .nil⟩ ?_ ?_
    · rintro k H7 hk ⟨add, xs, hal, oka, s7, hA7, dA7⟩
      have hxl := dA7.length
      refine ⟨rfl, ?_⟩
      refine ⟨_, rfl, _, rfl, _, _, rfl, rfl, .inl ⟨by decide, by decide⟩, _, _, rfl, rfl, _, rfl, _, rfl, _, _, rfl, rfl, .inl ⟨by decide, by decide⟩, _, _, rfl, rfl, _, rfl, aP, _, rfl, SqL.of (s7 _ _ hP6), fun aQ nQ => ?_⟩
      rw [show cutV (pt.map V.int) (some (4 + 8 * (0 + (k : Int)))) (some (12 + 8 * (0 + (k : Int)))) = ((pt.drop (4 + 8 * k)).take 8).map V.int from cut_rec pt k]
      have s8 := same_new nQ (.lst (((pt.drop (4 + 8 * k)).take 8).map V.int))
      refine ⟨aQ, _, rfl, upd_same, by rw [List.length_take, List.length_drop]; omega, hpb.sub _ _, fun H9 v r s9 okr9 hv => ?_⟩
      have hA9 := s9 _ _ (s8 _ _ hA7)
      have kt : KT H9 (upd H9 aA (.lst (xs ++ [v]))) := kt_lst hA9
      refine ⟨xs, hA9, szl (by omega), add ++ [r], xs ++ [v], by simp [hal], fun y hy => ?_, same_mut (s7.trans (s8.trans s9)) nA _, upd_same, ?_⟩
      · rcases List.mem_append.mp hy with hy | hy
        · exact oka y hy
        · rw [List.mem_singleton.mp hy]; exact okr9
      · exact (DpAll.kt kt (recs_imm oka) (DpAll.same (s8.trans s9) dA7)).append (.cons (Dp.kt kt (OkD.imm 2 okr9) hv) .nil)
    rintro H7 ⟨add, xs, hal, oka, s7, hA7, dA7⟩
    have S7 := s6.trans s7
    have nAl : aA ≠ l := fun z => by rw [z] at nA; rw [s6 _ _ hl] at nA; cases nA
    have hP7 := s7 _ _ hP6
    have nPl : aP ≠ l := fun z => by rw [z, hl] at nP; cases nP
    have hD7 := hD.same S7
    have hR7 := S7 _ _ hR
    have dR7 := DpAll.same S7 hdR
    have hp7 := S7 _ _ hp
    have hl7 := S7 _ _ hl
    have dl7 := DpAll.same S7 hdl
    have hDr7 := S7 _ _ hDr5
    have hnd := need_le oka
    have hul := hdR.length
    have hxl := dA7.length
    -- rewrites
    refine ⟨_, rfl, aP, _, _, _, rfl, rfl, SqL.of hP7, ge2, _, _, rfl, rfl, (by show (0 : Int) < 3; decide), rfl, ?_⟩
    generalize decide ((fun i j => V.int (i % j)) e2 3 = V.int 0) = rw
    -- the change
    refine ⟨fun σ' H' => ∃ (aAf aS l' : Addr) (zs ys : List V), σ' = [some (.ref a), some (.ref aDr), some (nV b), some (.ref aD), some (.ref aR), some (.ref p), some (.int (0 + (i : Int))), some (.ref aP), some (.ref aA), some (.bl rw), some (.ref aAf), some (.ref aS), u12, u13, u14, u15] ∧
      JAt K C H' p l' b (planG rw g) (planS rw s e add) (planE rw s e add) (planR rw rs add) ∧ H' aAf = some (.lst zs) ∧ DpAll K H' zs (planR rw rs add) ∧ H' aS = some (.lst ys) ∧ DpAll K H' ys ((planSS rw b g s e rs add).map stpD) ∧
      DiskAt K H' aD D ∧ H' aR = some (.lst us) ∧ DpAll K H' us rs ∧ H' aDr = some (.lst (ds.map V.int)) ∧ H' aP = some (.lst (pt.map V.int)) ∧ aD ≠ l' ∧ aR ≠ l' ∧ aAf ≠ l' ∧ aDr ≠ l', ?_, ?_⟩
    · refine ⟨_, rfl, rw, rfl, ?_⟩
      cases rw with
      | true =>
        refine iteT ?_
        refine ⟨_, rfl, ?_⟩
        refine ⟨_, rfl, p, dx, _, rfl, hp7, rew_no .., _, rfl, p, l, aA, b, g, s, e, xs, rs, add, rfl, ⟨dx, rus, hp7, hl7, dl7⟩, hA7, nAl, dA7, oka, by omega, by omega, by omega, h2s, by omega, by omega, fun H8 l' aS ys off nl' hJ naS hS8 dS8 => ?_⟩
        have kt := off2_kt off hp7 hl7
        obtain ⟨vD, hvD, _⟩ := hD7
        exact ⟨aA, aS, l', xs, ys, rfl, hJ, off _ _ (ne_ins hA7 hp7) nAl hA7, DpAll.kt kt (recs_imm oka) dA7, hS8, dS8, (hD.same S7).off off hp7 hl7 nDl, off _ _ (ne_ins hR7 hp7) nRl hR7, DpAll.kt kt (recs_imm okr) dR7,
          off _ _ (ne_ins hDr7 hp7) nDrl hDr7, off _ _ (ne_ins hP7 hp7) nPl hP7, ne_of_none hvD nl', ne_of_none hR7 nl', ne_of_none hA7 nl', ne_of_none hDr7 nl'⟩
      | false =>
        refine iteF ?_
        refine ⟨_, rfl, _, rfl, aR, aA, us, xs, rfl, rfl, hR7, hA7, sz (by omega), fun aAf nAf => ?_⟩
        have s8 := same_new nAf (.lst (us ++ xs))
        have hAf8 := upd_same (H := H7) (a := aAf) (o := HO.lst (us ++ xs))
        have nAfl : aAf ≠ l := fun z => by rw [z, hl7] at nAf; cases nAf
        generalize upd H7 aAf (.lst (us ++ xs)) = H8 at s8 hAf8 ⊢
        have hp8 := s8 _ _ hp7
        have hl8 := s8 _ _ hl7
        refine ⟨_, rfl, p, dx, _, rfl, hp8, app_no .., _, rfl, p, l, aA, b, g, s, e, xs, rs, add, rfl, ⟨dx, rus, hp8, hl8, DpAll.same s8 dl7⟩, s8 _ _ hA7, nAl, DpAll.same s8 dA7, okr, oka, by omega, by omega, by omega, by omega, fun H9 aS ys off hJ naS hS9 dS9 => ?_⟩
        have kt := off2_kt off hp8 hl8
        have imr2 : immAll (rs ++ add) = true := recs_imm fun y hy => by
          rcases List.mem_append.mp hy with hy | hy
          · exact okr y hy
          · exact oka y hy
        exact ⟨aAf, aS, l, us ++ xs, ys, rfl, hJ, off _ _ (ne_ins hAf8 hp8) nAfl hAf8, DpAll.kt kt imr2 (DpAll.same s8 (dR7.append dA7)), hS9, dS9, (hD7.same s8).off off hp8 hl8 nDl, off _ _ (ne_ins (s8 _ _ hR7) hp8) nRl (s8 _ _ hR7), DpAll.kt kt (recs_imm okr) (DpAll.same s8 dR7),
          off _ _ (ne_ins (s8 _ _ hDr7) hp8) nDrl (s8 _ _ hDr7), off _ _ (ne_ins (s8 _ _ hP7) hp8) nPl (s8 _ _ hP7), nDl, nRl, nAfl, nDrl⟩
    clear hD7 hR7 dR7 hp7 hl7 dl7 hDr7 hA7 dA7 hP7 S7 s7 s6 hP6 nAl nPl nA nP hD hR hdR hp hl hdl nDl nRl nDrl hDr5
    rintro σ' H8 ⟨aAf, aS, l', zs, ys, rfl, hJ, hAf, dAf, hSt8, dSt, hD8, hR8, dR8, hDr8, hP8, nDl, nRl, nAfl, nDrl⟩
    have okR : ∀ r ∈ planR rw rs add, OkD 2 r := fun r hr => by
      unfold planR at hr
      split at hr
      · exact oka r hr
      · rcases List.mem_append.mp hr with hr | hr
        · exact okr r hr
        · exact oka r hr
    have hyl := dSt.length
    rw [List.length_map] at hyl
    have hpl2 := @plan_len rw b g s e rs add
    have hon := plan_once rw b g s e rs add
    have hbd : Bd (2 + 1527 * (i + 1)) (planSS rw b g s e rs add) := plan_bd h2s (by omega) (by omega)
    have hbd4 : Bd 400000 (planSS rw b g s e rs add) := fun j x hm => by have := hbd j x hm; omega
    have hle := startOf_le (add := add) h2s (show s ≤ e by omega)
    -- whole, or in part and a failure
    refine ⟨fun σ' H' => LawInv K C a aDr ds (i + 1) σ' H', ?_, ?_⟩
    · refine ⟨_, rfl, aP, _, _, _, rfl, rfl, SqL.of hP8, ge0, _, _, rfl, rfl, (by show (0 : Int) < 2; decide), rfl, _, rfl, ?_⟩
      refine ite2 (fun _ => ?_) (fun _ => ?_)
      · have w := plan_whole (rw := rw) hSt oka (by omega) (by omega) (by omega) (by omega)
        obtain ⟨r1, r2, r3⟩ := run_bd (B := 2 + 1527 * (i + 1)) (planSS rw b g s e rs add) D [] (by omega) (fun q hq => nomatch hq) hbd
        refine ⟨_, rfl, _, rfl, _, rfl, aS, _, rfl, .inl (SqL.of hSt8), aD, aS, D, planSS rw b g s e rs add, ys, (planSS rw b g s e rs add).length, by rw [hyl]; rfl, hD8, hSt8, dSt, hon, hbd4, by omega, by omega, fun H9 t r vU s9 ht hra hd9 hu9 => ?_⟩
        rw [List.take_length] at hd9
        refine ⟨t, _, _, _, rfl, rfl, SqT.of ht, atI_nat (j := 0) rfl, ?_⟩
        refine ⟨_, rfl, ?_⟩
        have hrl : r ≠ l' := by
          rcases hra with rfl | hra
          · exact nDl
          · obtain ⟨dx', us', h1, h2, h3⟩ := hJ
            exact fun z => by rw [z, h2] at hra; cases hra
        refine ⟨_, b, planG rw g, planS rw s e add, planE rw s e add, planR rw rs add, p, l', r, aAf, zs, _, _, _, _, _, _, _, _, _, _, rfl, w, ⟨by omega, ?_, ?_, ?_, r1⟩, hd9, s9 _ _ hAf, DpAll.same s9 dAf, hJ.same s9, hrl, nAfl, nDrl, s9 _ _ hDr8⟩
        · unfold planG; split <;> omega
        · have := planR_len rw rs add; omega
        · unfold planE; split <;> omega
      · -- the machine fails
        refine ⟨_, rfl, aP, _, _, _, rfl, rfl, SqL.of hP8, ge3, .inl ⟨_, rfl, _, rfl, aS, _, rfl, .inl (SqL.of hSt8), _, _, rfl, rfl, _, _, rfl, rfl, (by show (0 : Int) < (ys.length : Int) + 1; omega), ?_⟩⟩
        have hn0 : 0 ≤ e3 % ((ys.length : Int) + 1) := Int.emod_nonneg _ (by omega)
        have hn1 : e3 % ((ys.length : Int) + 1) < (ys.length : Int) + 1 := Int.emod_lt_of_pos _ (by omega)
        obtain ⟨n, hn⟩ : ∃ n : Nat, e3 % ((ys.length : Int) + 1) = (n : Int) := ⟨(e3 % ((ys.length : Int) + 1)).toNat, by omega⟩
        rw [show (fun i j => V.int (i % j)) e3 ((ys.length : Int) + 1) = nV n from congrArg V.int hn]
        have hnl : n ≤ (planSS rw b g s e rs add).length := by omega
        clear hn0 hn1 hn
        refine ⟨_, rfl, _, rfl, _, rfl, aD, aS, D, planSS rw b g s e rs add, ys, n, rfl, hD8, hSt8, dSt, hon, hbd4, by omega, by omega, fun H9 t r vU s9 ht hra hd9 hu9 => ?_⟩
        refine ⟨_, rfl, ?_⟩
        refine ⟨fun σ' H' => ∃ (aB : Addr) (bs : List V), σ' = [some (.ref a), some (.ref aDr), some (nV b), some (.ref aD), some (.ref aR), some (.ref p), some (.int (0 + (i : Int))), some (.ref aP), some (.ref aA), some (.bl rw), some (.ref aAf), some (.ref aS), some (nV n), some (.ref t), some (.ref aB), u15] ∧ H' = H9 ∧
          H9 aB = some (.lst bs) ∧ DpAll K H9 bs (if n = (planSS rw b g s e rs add).length then planR rw rs add else rs), ?_, ?_⟩
        · refine ⟨_, rfl, _, rfl, aS, _, rfl, .inl (SqL.of (s9 _ _ hSt8)), rfl, _, rfl, ?_⟩
          refine ite2 (fun c => ?_) (fun c => ?_)
          · have c' : (n : Int) = (ys.length : Int) := V.int.inj (of_decide_eq_true c)
            exact ⟨_, rfl, aAf, zs, rfl, rfl, s9 _ _ hAf, by rw [if_pos (by omega)]; exact DpAll.same s9 dAf⟩
          · have c' : ¬ (n : Int) = (ys.length : Int) := fun z => c (decide_eq_true (congrArg V.int z))
            exact ⟨aR, us, rfl, rfl, s9 _ _ hR8, by rw [if_neg (by omega)]; exact DpAll.same s9 dR8⟩
        rintro σ' H' ⟨aB, bs, rfl, rfl, hB9, dB9⟩
        have okB : ∀ y ∈ (if n = (planSS rw b g s e rs add).length then planR rw rs add else rs), OkD 2 y := fun y hy => by
          split at hy
          · exact okR y hy
          · exact okr y hy
        obtain ⟨r1, r2, r3⟩ := run_bd (B := 2 + 1527 * (i + 1)) ((planSS rw b g s e rs add).take n) D [] (by omega) (fun q hq => nomatch hq) fun j x hm => hbd j x (List.mem_of_mem_take hm)
        have hP9 := s9 _ _ hP8
        refine ⟨_, rfl, t, _, _, _, rfl, rfl, SqT.of ht, atI_nat (j := 0) rfl, _, rfl, t, _, _, _, rfl, rfl, SqT.of ht, atI_nat (j := 1) rfl, _, rfl, 28, rfl, aP, _, rfl, SqL.of hP9, fun aQ nQ => ?_⟩
        have cq : cutV (pt.map V.int) (some 28) none = (pt.drop 28).map V.int := by
          have := cut_from (pt.map V.int) 28
          rw [show ((28 : Nat) : Int) = 28 from rfl] at this
          rw [this, ← List.map_drop]
        rw [cq]
        have s10 := same_new nQ (.lst ((pt.drop 28).map V.int))
        have hq18 : (pt.drop 28).length = 18 := by rw [List.length_drop]; omega
        refine ⟨r, aQ, vU, _, _, pt.drop 28, rfl, hd9.same s10, hu9.same s10, upd_same, (fun z => by rw [z] at hq18; cases hq18), by omega, (fun d hd => hpb d (List.mem_of_mem_drop hd)), by omega, (fun q hq => by have := r2 q hq; omega), ?_, fun H11 x ch s11 hxa hd11 => ?_⟩
        · rw [List.length_take] at r3
          have r3' : (run (D, []) ((planSS rw b g s e rs add).take n)).2.length ≤ 0 + min n (planSS rw b g s e rs add).length := r3
          omega
        obtain ⟨g3, s3, e3', rs3, hSt3, hPoss, hg3, he3, hl3⟩ := plan_crash (rw := rw) (b' := b + 4) hSt oka (by omega) (by omega) (by omega) (by omega) n hnl ch (by omega)
        have hfl := fallN_len (ch := ch) (B := 2 + 1527 * (i + 1)) r1 r2 (run (D, []) ((planSS rw b g s e rs add).take n)).2.length
        generalize fallN (run (D, []) ((planSS rw b g s e rs add).take n)).1 (run (D, []) ((planSS rw b g s e rs add).take n)).2 ch (run (D, []) ((planSS rw b g s e rs add).take n)).2.length = D3 at hd11 hSt3 hfl
        obtain ⟨hb3, hb3l, hH3, hR3⟩ := hSt3.rd
        have S11 := s9.trans (s10.trans s11)
        have S911 := s10.trans s11
        -- boot = boot + 2; records = opens(..)
        refine ⟨_, rfl, _, _, rfl, rfl, ?_⟩
        refine ⟨_, rfl, _, rfl, _, rfl, _, rfl, _, rfl, x, aB, aAf, D3, b + 2, bs, zs, _, planR rw rs add, rw, g3, s3, hb3, e3', rs3, rfl, hd11, hSt3.ok, hH3, hR3, by omega, S911 _ _ hB9, S11 _ _ hAf, DpAll.same S911 dB9, DpAll.same S11 dAf, okB, okR, hPoss, fun H12 aR' us' s12 nR' hR' dR' => ?_⟩
        refine ⟨_, rfl, rfl, _, rfl, iteF ?_⟩
        refine ⟨_, rfl, _, _, rfl, rfl, ?_⟩
        refine ⟨_, rfl, _, rfl, fun p' dx' np' ndx' nex' => ?_⟩
        have s13 : Same H12 (upd (upd H12 dx' (.own p')) p' (.ins C dx' [])) := (same_new ndx' _).trans (same_new (by rw [upd_ne nex'.symm]; exact np') _)
        have hd12 := hd11.same s12
        refine ⟨p', dx', x, D3, b + 4, g3, s3, hb3, e3', rs3, rfl, upd_same, hd12.same s13, hSt3.ok, hH3, hR3, by omega, fun H14 l'' us'' off nl'' hp'' hl'' hd'' => ⟨rfl, ?_⟩⟩
        have s14 : Same H12 H14 := made_same np' ndx' off
        have nl12 : H12 l'' = none := s13.free nl''
        obtain ⟨vD, hvD, _⟩ := id hd12
        have S8 := S11.trans s12
        exact ⟨D3, b + 4, g3, s3, e3', rs3, p', l'', x, aR', us', _, _, _, _, _, _, _, _, _, _, rfl, hSt3, ⟨by omega, by omega, by omega, by omega, hfl⟩, hd12.same s14, s14 _ _ hR', DpAll.same s14 dR', ⟨dx', us'', hp'', hl'', hd''⟩,
          ne_of_none hvD nl12, ne_of_none hR' nl12, ne_of_none (S8 _ _ hDr8) nl12, s14 _ _ (S8 _ _ hDr8)⟩
    · -- if journal.records() != records: return False
      rintro σ' H9 inv
      obtain ⟨D9, b9, g9, s9, e9, rs9, p9, l9, aD9, aR9, us9, v6, v7, v8, v9, v10, v11, v12, v13, v14, v15, rfl, hSt9, hBd9, hD9, hR9, hdR9, hJ9, n1, n2, n3, hDr9⟩ := id inv
      obtain ⟨dx9, rus9, hp9, hl9, hdl9⟩ := id hJ9
      have ok9 := hSt9.recs
      refine ⟨_, rfl, p9, dx9, _, rfl, hp9, rec_no .., p9, l9, b9, g9, s9, e9, rs9, rfl, hJ9, ok9, fun H10 r us10 s10 nr hr10 hd10 => ?_⟩
      refine ⟨_, rfl, _, _, .lst (SqL.of hr10) hd10, .lst (SqL.of (s10 _ _ hR9)) (DpAll.same s10 hdR9), shaped_recs ok9, shaped_recs ok9, _, rfl, ?_⟩
      rw [eqv_recs ok9]
      exact iteF (inv.same s10)
  · -- the end: what is opened at last
    rintro σ H5 ⟨D, b, g, s, e, rs, p, l, aD, aR, us, u6, u7, u8, u9, u10, u11, u12, u13, u14, u15, rfl, hSt, hBd, hD, hR, hdR, hJ, n1, n2, n3, hDr⟩
    have okr := hSt.recs
    obtain ⟨hb, hbl, hH, hRd⟩ := hSt.rd
    have hBn := hBd.n
    refine ⟨_, rfl, _, rfl, _, _, rfl, rfl, fun p2 dx2 np2 ndx2 nex2 => ?_⟩
    have s6 : Same H5 (upd (upd H5 dx2 (.own p2)) p2 (.ins C dx2 [])) := (same_new ndx2 _).trans (same_new (by rw [upd_ne nex2.symm]; exact np2) _)
    refine ⟨p2, dx2, aD, D, b + 1, g, s, hb, e, rs, rfl, upd_same, hD.same s6, hSt.ok, hH, hRd, by omega, fun H7 l7 us7 off nl7 hp7 hl7 hd7 => ⟨rfl, ?_⟩⟩
    have s7 : Same H5 H7 := made_same np2 ndx2 off
    refine ⟨p2, dx2, _, rfl, hp7, rec_no .., ?_⟩
    refine ⟨p2, l7, b + 1, g, s, e, rs, rfl, ⟨dx2, us7, hp7, hl7, hd7⟩, okr, fun H8 r us8 s8 nr hr8 hd8 => ?_⟩
    have S8 := s7.trans s8
    refine ⟨_, rfl, _, _, .lst (SqL.of hr8) hd8, .lst (SqL.of (S8 _ _ hR)) (DpAll.same S8 hdR), shaped_recs okr, shaped_recs okr, ?_⟩
    rw [eqv_recs okr]
    exact q H8
end
end Mj
set_option Elab.async false
set_option linter.all false
set_option maxRecDepth 100000
set_option maxHeartbeats 4000000
namespace Mj
open PySem L2
theorem vals_abs : ∀ {us : List Value} {ns : List Int}, us.map absV = ns.map (fun n => some (V.int n)) → Vals (ns.map V.int) us
  | [], [], _ => .nil
  | [], _ :: _, h => by cases h
  | _ :: _, [], h => by cases h
  | u :: us, n :: ns, h => by
    have h1 : absV u = some (V.int n) := by
      have := congrArg List.head? h
      simpa using this
    have h2 : us.map absV = ns.map (fun n => some (V.int n)) := by
      have := congrArg List.tail h
      simpa using this
    refine .cons ?_ (vals_abs h2)
    cases u with
    | int i t =>
      have e : (some (V.int i)) = some (V.int n) := h1
      cases e
      exact ⟨t, rfl⟩
    | none => cases h1
    | bool b => cases h1
    | str x t => cases h1
    | bytes x t => cases h1
    | float x t => cases h1
    | ref a => cases h1
    | type a => cases h1
    | _ => cases h1
section
variable {P : Program} {w : World} {K : PySem.W.Frag} {mg : Str → Option Value} {base : Heap} {C : Addr}
theorem none_left {n : Nat} {f : Addr} {fd : FuncData} {ps : List Str} {sp : Sp} (no : ∀ vs H Q E, ¬ sp vs H Q E) : FnOk P w K mg base CX0 n f fd ps sp :=
  ⟨fun vs H Q E h => absurd h (no vs H Q E), fun A outer s H args us vs Q E _ _ _ _ h => absurd h (no vs H Q E)⟩
theorem cal {k : Nat} {x : Str} {sp : Sp} {f : Addr} {fd : FuncData} {ps : List Str} (F : FnOk P w K mg base CX0 k f fd ps sp) (m : mg x = some (.ref f)) (kp : PySem.W.keepIn K (.ref f) = true) (b : Binds K fd ps []) : C8.Cal P w K mg base k x sp [] :=
  ⟨f, fd, ps, [], F, m, kp, b, .nil⟩
theorem vw_all {f : Addr} {fd : FuncData} (F : Fun K "is_value_within" "is_value_within" sIsVW f fd) (b : Binds K fd ["value", "depth"] []) (m : mg "is_value_within" = some (.ref f)) (T : Txt K mg C) (cS : C8.Cal P w K mg base 1 "is_string" spIsStr []) :
    ∀ k : Nat, C8.Cal P w K mg base (k + 1) "is_value_within" (spVW K k) []
  | 0 => cal (none_left fun _ _ _ _ h => h) m F.kp b
  | k + 1 => cal (ok_vw F T cS (vw_all F b m T cS k)) m F.kp b
theorem pi_all {f : Addr} {fd : FuncData} (F : Fun K "pack_into" "pack_into" sPackI f fd) (b : Binds K fd ["row", "value"] []) (m : mg "pack_into" = some (.ref f)) (T : Txt K mg C) (cP : C8.Cal P w K mg base 1 "put_number" spPut []) :
    ∀ k : Nat, C8.Cal P w K mg base (k + 1) "pack_into" (spPI K k) []
  | 0 => cal (none_left fun _ _ _ _ h => h) m F.kp b
  | k + 1 => cal (ok_packI F T cP (pi_all F b m T cP k)) m F.kp b
theorem tv_all {f g : Addr} {fd gd : FuncData} (F : Fun K "take_value" "take_value" sTakeV f fd) (b : Binds K fd ["row", "index", "depth"] []) (m : mg "take_value" = some (.ref f)) (G : Fun K "take_tuple" "take_tuple" sTakeT g gd) (bg : Binds K gd ["row", "index", "depth"] []) (mg' : mg "take_tuple" = some (.ref g)) (T : Txt K mg C)
    (cI : C8.Cal P w K mg base 2 "take_integer" (spTakeI K) []) (cS : C8.Cal P w K mg base 3 "take_string" (spTakeS K) []) (cL : C8.Cal P w K mg base 2 "take_length" (spTakeL K) []) :
    ∀ k : Nat, C8.Cal P w K mg base (2 * k + 4) "take_value" (spTV K (k + 1)) [] ∧ C8.Cal P w K mg base (2 * k + 3) "take_tuple" (spTT K k) []
  | 0 => by
    have t0 : C8.Cal P w K mg base (2 * 0 + 3) "take_tuple" (spTT K 0) [] := cal (none_left fun _ _ _ _ h => h) mg' G.kp bg
    exact ⟨cal (ok_tv F T cI cS t0) m F.kp b, t0⟩
  | k + 1 => by
    have ih := tv_all F b m G bg mg' T cI cS cL k
    have t1 : C8.Cal P w K mg base (2 * (k + 1) + 3) "take_tuple" (spTT K (k + 1)) [] := cal (ok_tt G T cL ih.1) mg' G.kp bg
    exact ⟨cal (ok_tv F T cI cS t1) m F.kp b, t1⟩
theorem chain {tC fPut fTakeN fIsStr fIsVW fIsV fPackI fPack fTakeI fTakeL fTakeS fTakeT fTakeV fUnpack fCk fCkb fMkSec fRdSec fPartsN fSecAt fRdHead fNewHead fRdPart fRdRec fRdRecs fChkRecs fPartW fJInit fJRecs fJApp fJRew fDraws fRecord fLWrite fLStep fLFall fLRun fLPoss fLOpens fLaw : Addr} {dPut dTakeN dIsStr dIsVW dIsV dPackI dPack dTakeI dTakeL dTakeS dTakeT dTakeV dUnpack dCk dCkb dMkSec dRdSec dPartsN dSecAt dRdHead dNewHead dRdPart dRdRec dRdRecs dChkRecs dPartW dJInit dJRecs dJApp dJRew dDraws dRecord dLWrite dLStep dLFall dLRun dLPoss dLOpens dLaw : FuncData} (T : Txt K mg C) (M : Mk K C fJInit)
    (FPut : Fun K "put_number" "put_number" sPut fPut dPut) (bPut : Binds K dPut ["number"] []) (mPut : mg "put_number" = some (.ref fPut))
    (FTakeN : Fun K "take_number" "take_number" sTakeN fTakeN dTakeN) (bTakeN : Binds K dTakeN ["row", "index"] []) (mTakeN : mg "take_number" = some (.ref fTakeN))
    (FIsStr : Fun K "is_string" "is_string" sIsStr fIsStr dIsStr) (bIsStr : Binds K dIsStr ["value"] []) (mIsStr : mg "is_string" = some (.ref fIsStr))
    (FIsVW : Fun K "is_value_within" "is_value_within" sIsVW fIsVW dIsVW) (bIsVW : Binds K dIsVW ["value", "depth"] []) (mIsVW : mg "is_value_within" = some (.ref fIsVW))
    (FIsV : Fun K "is_value" "is_value" sIsV fIsV dIsV) (bIsV : Binds K dIsV ["value"] []) (mIsV : mg "is_value" = some (.ref fIsV))
    (FPackI : Fun K "pack_into" "pack_into" sPackI fPackI dPackI) (bPackI : Binds K dPackI ["row", "value"] []) (mPackI : mg "pack_into" = some (.ref fPackI))
    (FPack : Fun K "pack" "pack" sPack fPack dPack) (bPack : Binds K dPack ["value"] []) (mPack : mg "pack" = some (.ref fPack))
    (FTakeI : Fun K "take_integer" "take_integer" sTakeI fTakeI dTakeI) (bTakeI : Binds K dTakeI ["row", "index", "negative"] []) (mTakeI : mg "take_integer" = some (.ref fTakeI))
    (FTakeL : Fun K "take_length" "take_length" sTakeL fTakeL dTakeL) (bTakeL : Binds K dTakeL ["row", "index"] []) (mTakeL : mg "take_length" = some (.ref fTakeL))
    (FTakeS : Fun K "take_string" "take_string" sTakeS fTakeS dTakeS) (bTakeS : Binds K dTakeS ["row", "index"] []) (mTakeS : mg "take_string" = some (.ref fTakeS))
    (FTakeT : Fun K "take_tuple" "take_tuple" sTakeT fTakeT dTakeT) (bTakeT : Binds K dTakeT ["row", "index", "depth"] []) (mTakeT : mg "take_tuple" = some (.ref fTakeT))
    (FTakeV : Fun K "take_value" "take_value" sTakeV fTakeV dTakeV) (bTakeV : Binds K dTakeV ["row", "index", "depth"] []) (mTakeV : mg "take_value" = some (.ref fTakeV))
    (FUnpack : Fun K "unpack" "unpack" sUnpack fUnpack dUnpack) (bUnpack : Binds K dUnpack ["row"] []) (mUnpack : mg "unpack" = some (.ref fUnpack))
    (FCk : FunD K "checksum" "checksum" (defArgs sCk) (defBody sCk) (defScope sCk) [.ref tC] [] fCk dCk) (cbCk : ∃ ds, Vals [V.ref tC] ds ∧ Binds K dCk ["row", "start"] ds) (mCk : mg "checksum" = some (.ref fCk)) (hC : ∀ H, SqT K H tC [.int 1, .int 1])
    (FCkb : Fun K "check_bytes" "check_bytes" sCkb fCkb dCkb) (bCkb : Binds K dCkb ["pair"] []) (mCkb : mg "check_bytes" = some (.ref fCkb))
    (FMkSec : Fun K "make_sector" "make_sector" sMkSec fMkSec dMkSec) (bMkSec : Binds K dMkSec ["kind", "payload"] []) (mMkSec : mg "make_sector" = some (.ref fMkSec))
    (FRdSec : Fun K "read_sector" "read_sector" sRdSec fRdSec dRdSec) (bRdSec : Binds K dRdSec ["sector"] []) (mRdSec : mg "read_sector" = some (.ref fRdSec))
    (FPartsN : Fun K "parts_needed" "parts_needed" sPartsN fPartsN dPartsN) (bPartsN : Binds K dPartsN ["record"] []) (mPartsN : mg "parts_needed" = some (.ref fPartsN))
    (FSecAt : Fun K "sector_at" "sector_at" sSecAt fSecAt dSecAt) (bSecAt : Binds K dSecAt ["sectors", "index"] []) (mSecAt : mg "sector_at" = some (.ref fSecAt))
    (FRdHead : Fun K "read_head" "read_head" sRdHead fRdHead dRdHead) (bRdHead : Binds K dRdHead ["sectors", "index"] []) (mRdHead : mg "read_head" = some (.ref fRdHead))
    (FNewHead : Fun K "newest_head" "newest_head" sNewHead fNewHead dNewHead) (bNewHead : Binds K dNewHead ["sectors"] []) (mNewHead : mg "newest_head" = some (.ref fNewHead))
    (FRdPart : Fun K "read_part" "read_part" sRdPart fRdPart dRdPart) (bRdPart : Binds K dRdPart ["sectors", "index"] []) (mRdPart : mg "read_part" = some (.ref fRdPart))
    (FRdRec : Fun K "read_record" "read_record" sRdRec fRdRec dRdRec) (bRdRec : Binds K dRdRec ["sectors", "place", "generation", "index", "boot"] []) (mRdRec : mg "read_record" = some (.ref fRdRec))
    (FRdRecs : Fun K "read_records" "read_records" sRdRecs fRdRecs dRdRecs) (bRdRecs : Binds K dRdRecs ["sectors", "head"] []) (mRdRecs : mg "read_records" = some (.ref fRdRecs))
    (FChkRecs : Fun K "check_records" "check_records" sChkRecs fChkRecs dChkRecs) (bChkRecs : Binds K dChkRecs ["records"] []) (mChkRecs : mg "check_records" = some (.ref fChkRecs))
    (FPartW : Fun K "part_writes" "part_writes" sPartW fPartW dPartW) (bPartW : Binds K dPartW ["record", "place", "numbers"] []) (mPartW : mg "part_writes" = some (.ref fPartW))
    (FJInit : Fun K "__init__" "Journal.__init__" sJInit fJInit dJInit) (bJInit : Binds K dJInit ["self", "sectors", "boot"] [])
    (FJRecs : Fun K "records" "Journal.records" sJRecs fJRecs dJRecs) (bJRecs : Binds K dJRecs ["self"] []) (mJRecs : Meth K C "records" fJRecs)
    (FJApp : Fun K "append" "Journal.append" sJApp fJApp dJApp) (bJApp : Binds K dJApp ["self", "records"] []) (mJApp : Meth K C "append" fJApp)
    (FJRew : Fun K "rewrite" "Journal.rewrite" sJRew fJRew dJRew) (bJRew : Binds K dJRew ["self", "records"] []) (mJRew : Meth K C "rewrite" fJRew)
    (FDraws : Fun K "_law_draws" "_law_draws" sDraws fDraws dDraws) (bDraws : Binds K dDraws ["_law_script", "_law_many"] []) (mDraws : mg "_law_draws" = some (.ref fDraws))
    (FRecord : Fun K "_law_record" "_law_record" sRecord fRecord dRecord) (bRecord : Binds K dRecord ["_law_draws_here"] []) (mRecord : mg "_law_record" = some (.ref fRecord))
    (FLWrite : Fun K "_law_write" "_law_write" sLWrite fLWrite dLWrite) (bLWrite : Binds K dLWrite ["_law_disk", "_law_index", "_law_sector"] []) (mLWrite : mg "_law_write" = some (.ref fLWrite))
    (FLStep : Fun K "_law_step" "_law_step" sLStep fLStep dLStep) (bLStep : Binds K dLStep ["_law_disk", "_law_unsafe", "_law_step_here"] []) (mLStep : mg "_law_step" = some (.ref fLStep))
    (FLFall : Fun K "_law_fall" "_law_fall" sLFall fLFall dLFall) (bLFall : Binds K dLFall ["_law_disk", "_law_unsafe", "_law_draws_here"] []) (mLFall : mg "_law_fall" = some (.ref fLFall))
    (FLRun : Fun K "_law_run_steps" "_law_run_steps" sLRun fLRun dLRun) (bLRun : Binds K dLRun ["_law_disk", "_law_steps", "_law_count"] []) (mLRun : mg "_law_run_steps" = some (.ref fLRun))
    (FLPoss : Fun K "_law_is_possible" "_law_is_possible" sLPoss fLPoss dLPoss) (bLPoss : Binds K dLPoss ["_law_actual", "_law_before", "_law_after", "_law_rewrites"] []) (mLPoss : mg "_law_is_possible" = some (.ref fLPoss))
    (FLOpens : Fun K "_law_opens" "_law_opens" sLOpens fLOpens dLOpens) (bLOpens : Binds K dLOpens ["_law_disk", "_law_boot", "_law_before", "_law_after", "_law_rewrites"] []) (mLOpens : mg "_law_opens" = some (.ref fLOpens))
    (FLaw : Fun K "law" "law" sLaw fLaw dLaw) (bLaw : Binds K dLaw ["_law_script"] []) (mLaw : mg "law" = some (.ref fLaw)) :
    FnOk P w K mg base CX0 15 fLaw dLaw ["_law_script"] (spLaw K) := by
  have cPut := cal (P := P) (w := w) (base := base) (ok_put FPut) mPut FPut.kp bPut
  have cTakeN := cal (P := P) (w := w) (base := base) (ok_takeN FTakeN T) mTakeN FTakeN.kp bTakeN
  have cIsStr := cal (P := P) (w := w) (base := base) (ok_isStr FIsStr T) mIsStr FIsStr.kp bIsStr
  have cVW := vw_all FIsVW bIsVW mIsVW T cIsStr 3
  have cIsV := cal (P := P) (w := w) (base := base) (ok_iv FIsV T cVW) mIsV FIsV.kp bIsV
  have cPI := pi_all FPackI bPackI mPackI T cPut 3
  have cPack := cal (P := P) (w := w) (base := base) (ok_pack FPack T cIsV cPI) mPack FPack.kp bPack
  have cTakeI := cal (P := P) (w := w) (base := base) (ok_takeI FTakeI T cTakeN) mTakeI FTakeI.kp bTakeI
  have cTakeL := cal (P := P) (w := w) (base := base) (ok_takeL FTakeL T cTakeN) mTakeL FTakeL.kp bTakeL
  have cTakeS := cal (P := P) (w := w) (base := base) (ok_takeS FTakeS T cTakeL) mTakeS FTakeS.kp bTakeS
  have cTV := (tv_all FTakeV bTakeV mTakeV FTakeT bTakeT mTakeT T cTakeI cTakeS cTakeL 2).1
  have cUnpack := cal (P := P) (w := w) (base := base) (ok_unpack FUnpack T cTV) mUnpack FUnpack.kp bUnpack
  have cCk : C8.Cal P w K mg base 1 "checksum" (spCk K) [.ref tC] := by
    obtain ⟨ds, v, b⟩ := cbCk
    exact ⟨fCk, dCk, _, ds, ok_ck FCk T, mCk, FCk.kp, b, v⟩
  have cCkb := cal (P := P) (w := w) (base := base) (ok_ckb FCkb) mCkb FCkb.kp bCkb
  have cMkSec := cal (P := P) (w := w) (base := base) (ok_mk FMkSec T hC cCk cCkb) mMkSec FMkSec.kp bMkSec
  have cRdSec := cal (P := P) (w := w) (base := base) (ok_rdSec FRdSec T hC cCk cCkb) mRdSec FRdSec.kp bRdSec
  have cPartsN := cal (P := P) (w := w) (base := base) (ok_pn FPartsN T cPack) mPartsN FPartsN.kp bPartsN
  have cSecAt := cal (P := P) (w := w) (base := base) (ok_secAt FSecAt T) mSecAt FSecAt.kp bSecAt
  have cRdHead := cal (P := P) (w := w) (base := base) (ok_rdHead FRdHead T cSecAt cRdSec cUnpack) mRdHead FRdHead.kp bRdHead
  have cNewHead := cal (P := P) (w := w) (base := base) (ok_nh FNewHead T cRdHead) mNewHead FNewHead.kp bNewHead
  have cRdPart := cal (P := P) (w := w) (base := base) (ok_rdPart FRdPart T cSecAt cRdSec cTakeN) mRdPart FRdPart.kp bRdPart
  have cRdRec := cal (P := P) (w := w) (base := base) (ok_rdRec FRdRec T cRdPart) mRdRec FRdRec.kp bRdRec
  have cRdRecs := cal (P := P) (w := w) (base := base) (ok_rdRecs FRdRecs T cRdRec cUnpack) mRdRecs FRdRecs.kp bRdRecs
  have cChk := cal (P := P) (w := w) (base := base) (ok_chk FChkRecs T cIsV) mChkRecs FChkRecs.kp bChkRecs
  have cPW := cal (P := P) (w := w) (base := base) (ok_pw FPartW T cPack cPut cMkSec) mPartW FPartW.kp bPartW
  have cM : C8.Mak P w K mg base 12 "Journal" C (spInit K C) [] := ⟨fJInit, dJInit, _, [], M, ok_init FJInit T cNewHead cRdRecs, T.mgC, bJInit, .nil⟩
  have cJR : C8.Met P w K mg base 1 C "records" (spJRecs K C) [] := ⟨fJRecs, dJRecs, _, [], T.cl, mJRecs, ok_jrecs FJRecs T, bJRecs, .nil⟩
  have cJA : C8.Met P w K mg base 8 C "append" (spJApp K C) [] := ⟨fJApp, dJApp, _, [], T.cl, mJApp, ok_japp FJApp T cChk cPW, bJApp, .nil⟩
  have cJW : C8.Met P w K mg base 8 C "rewrite" (spJRew K C) [] := ⟨fJRew, dJRew, _, [], T.cl, mJRew, ok_jrew FJRew T cChk cPartsN cPW cPack cMkSec, bJRew, .nil⟩
  have cDr := cal (P := P) (w := w) (base := base) (ok_draws FDraws T) mDraws FDraws.kp bDraws
  have cRec := cal (P := P) (w := w) (base := base) (ok_record FRecord T) mRecord FRecord.kp bRecord
  have cLW := cal (P := P) (w := w) (base := base) (ok_lw FLWrite T) mLWrite FLWrite.kp bLWrite
  have cLS := cal (P := P) (w := w) (base := base) (ok_lstep FLStep T cLW) mLStep FLStep.kp bLStep
  have cLF := cal (P := P) (w := w) (base := base) (ok_lfall FLFall T cLW) mLFall FLFall.kp bLFall
  have cLR := cal (P := P) (w := w) (base := base) (ok_lrun FLRun T cLS) mLRun FLRun.kp bLRun
  have cLP := cal (P := P) (w := w) (base := base) (ok_lposs FLPoss T) mLPoss FLPoss.kp bLPoss
  have cLO := cal (P := P) (w := w) (base := base) (ok_lopens FLOpens T cM cJR cLP) mLOpens FLOpens.kp bLOpens
  exact ok_law FLaw T cDr cRec cLR cLF cLO cM cJR cJA cJW
end
end Mj
set_option Elab.async false
set_option linter.all false
set_option maxRecDepth 100000
set_option maxHeartbeats 4000000
namespace Mj
open PySem L2
theorem all_mk {l : PySem.W.OpenLaw} {w : World} {K : PySem.W.Frag} {h : Heap} {mg : Str → Option Value} {fa C tC tD tB : Addr} {slC slD slB : Array (Option Value)} {ddC ddD ddB : Option Addr} {itC itD itB : Array Value} {nC nD nB : Nat} {zc : Str} {tCH t_LONGEST t_BITS t_LENGTH t_DEPTH t_MODULUS t_PAYLOAD t_KINDS t_HEAD t_PART t_PIECE t_FIRST : Tok}
    {fPut : Addr} {odPut anPut : Option Addr} {slPut : Array (Option Value)} {ocPut kVPut dcPut pmPut cdPut ctPut : Value}
    {fTakeN : Addr} {odTakeN anTakeN : Option Addr} {slTakeN : Array (Option Value)} {ocTakeN kVTakeN dcTakeN pmTakeN cdTakeN ctTakeN : Value}
    {fIsStr : Addr} {odIsStr anIsStr : Option Addr} {slIsStr : Array (Option Value)} {ocIsStr kVIsStr dcIsStr pmIsStr cdIsStr ctIsStr : Value}
    {fIsVW : Addr} {odIsVW anIsVW : Option Addr} {slIsVW : Array (Option Value)} {ocIsVW kVIsVW dcIsVW pmIsVW cdIsVW ctIsVW : Value}
    {fIsV : Addr} {odIsV anIsV : Option Addr} {slIsV : Array (Option Value)} {ocIsV kVIsV dcIsV pmIsV cdIsV ctIsV : Value}
    {fPackI : Addr} {odPackI anPackI : Option Addr} {slPackI : Array (Option Value)} {ocPackI kVPackI dcPackI pmPackI cdPackI ctPackI : Value}
    {fPack : Addr} {odPack anPack : Option Addr} {slPack : Array (Option Value)} {ocPack kVPack dcPack pmPack cdPack ctPack : Value}
    {fTakeI : Addr} {odTakeI anTakeI : Option Addr} {slTakeI : Array (Option Value)} {ocTakeI kVTakeI dcTakeI pmTakeI cdTakeI ctTakeI : Value}
    {fTakeL : Addr} {odTakeL anTakeL : Option Addr} {slTakeL : Array (Option Value)} {ocTakeL kVTakeL dcTakeL pmTakeL cdTakeL ctTakeL : Value}
    {fTakeS : Addr} {odTakeS anTakeS : Option Addr} {slTakeS : Array (Option Value)} {ocTakeS kVTakeS dcTakeS pmTakeS cdTakeS ctTakeS : Value}
    {fTakeT : Addr} {odTakeT anTakeT : Option Addr} {slTakeT : Array (Option Value)} {ocTakeT kVTakeT dcTakeT pmTakeT cdTakeT ctTakeT : Value}
    {fTakeV : Addr} {odTakeV anTakeV : Option Addr} {slTakeV : Array (Option Value)} {ocTakeV kVTakeV dcTakeV pmTakeV cdTakeV ctTakeV : Value}
    {fUnpack : Addr} {odUnpack anUnpack : Option Addr} {slUnpack : Array (Option Value)} {ocUnpack kVUnpack dcUnpack pmUnpack cdUnpack ctUnpack : Value}
    {fCk : Addr} {odCk anCk : Option Addr} {slCk : Array (Option Value)} {ocCk kVCk dcCk pmCk cdCk ctCk : Value}
    {fCkb : Addr} {odCkb anCkb : Option Addr} {slCkb : Array (Option Value)} {ocCkb kVCkb dcCkb pmCkb cdCkb ctCkb : Value}
    {fMkSec : Addr} {odMkSec anMkSec : Option Addr} {slMkSec : Array (Option Value)} {ocMkSec kVMkSec dcMkSec pmMkSec cdMkSec ctMkSec : Value}
    {fRdSec : Addr} {odRdSec anRdSec : Option Addr} {slRdSec : Array (Option Value)} {ocRdSec kVRdSec dcRdSec pmRdSec cdRdSec ctRdSec : Value}
    {fPartsN : Addr} {odPartsN anPartsN : Option Addr} {slPartsN : Array (Option Value)} {ocPartsN kVPartsN dcPartsN pmPartsN cdPartsN ctPartsN : Value}
    {fSecAt : Addr} {odSecAt anSecAt : Option Addr} {slSecAt : Array (Option Value)} {ocSecAt kVSecAt dcSecAt pmSecAt cdSecAt ctSecAt : Value}
    {fRdHead : Addr} {odRdHead anRdHead : Option Addr} {slRdHead : Array (Option Value)} {ocRdHead kVRdHead dcRdHead pmRdHead cdRdHead ctRdHead : Value}
    {fNewHead : Addr} {odNewHead anNewHead : Option Addr} {slNewHead : Array (Option Value)} {ocNewHead kVNewHead dcNewHead pmNewHead cdNewHead ctNewHead : Value}
    {fRdPart : Addr} {odRdPart anRdPart : Option Addr} {slRdPart : Array (Option Value)} {ocRdPart kVRdPart dcRdPart pmRdPart cdRdPart ctRdPart : Value}
    {fRdRec : Addr} {odRdRec anRdRec : Option Addr} {slRdRec : Array (Option Value)} {ocRdRec kVRdRec dcRdRec pmRdRec cdRdRec ctRdRec : Value}
    {fRdRecs : Addr} {odRdRecs anRdRecs : Option Addr} {slRdRecs : Array (Option Value)} {ocRdRecs kVRdRecs dcRdRecs pmRdRecs cdRdRecs ctRdRecs : Value}
    {fChkRecs : Addr} {odChkRecs anChkRecs : Option Addr} {slChkRecs : Array (Option Value)} {ocChkRecs kVChkRecs dcChkRecs pmChkRecs cdChkRecs ctChkRecs : Value}
    {fPartW : Addr} {odPartW anPartW : Option Addr} {slPartW : Array (Option Value)} {ocPartW kVPartW dcPartW pmPartW cdPartW ctPartW : Value}
    {fJInit : Addr} {odJInit anJInit : Option Addr} {slJInit : Array (Option Value)} {ocJInit kVJInit dcJInit pmJInit cdJInit ctJInit : Value}
    {fJRecs : Addr} {odJRecs anJRecs : Option Addr} {slJRecs : Array (Option Value)} {ocJRecs kVJRecs dcJRecs pmJRecs cdJRecs ctJRecs : Value}
    {fJApp : Addr} {odJApp anJApp : Option Addr} {slJApp : Array (Option Value)} {ocJApp kVJApp dcJApp pmJApp cdJApp ctJApp : Value}
    {fJRew : Addr} {odJRew anJRew : Option Addr} {slJRew : Array (Option Value)} {ocJRew kVJRew dcJRew pmJRew cdJRew ctJRew : Value}
    {fDraws : Addr} {odDraws anDraws : Option Addr} {slDraws : Array (Option Value)} {ocDraws kVDraws dcDraws pmDraws cdDraws ctDraws : Value}
    {fRecord : Addr} {odRecord anRecord : Option Addr} {slRecord : Array (Option Value)} {ocRecord kVRecord dcRecord pmRecord cdRecord ctRecord : Value}
    {fLWrite : Addr} {odLWrite anLWrite : Option Addr} {slLWrite : Array (Option Value)} {ocLWrite kVLWrite dcLWrite pmLWrite cdLWrite ctLWrite : Value}
    {fLStep : Addr} {odLStep anLStep : Option Addr} {slLStep : Array (Option Value)} {ocLStep kVLStep dcLStep pmLStep cdLStep ctLStep : Value}
    {fLFall : Addr} {odLFall anLFall : Option Addr} {slLFall : Array (Option Value)} {ocLFall kVLFall dcLFall pmLFall cdLFall ctLFall : Value}
    {fLRun : Addr} {odLRun anLRun : Option Addr} {slLRun : Array (Option Value)} {ocLRun kVLRun dcLRun pmLRun cdLRun ctLRun : Value}
    {fLPoss : Addr} {odLPoss anLPoss : Option Addr} {slLPoss : Array (Option Value)} {ocLPoss kVLPoss dcLPoss pmLPoss cdLPoss ctLPoss : Value}
    {fLOpens : Addr} {odLOpens anLOpens : Option Addr} {slLOpens : Array (Option Value)} {ocLOpens kVLOpens dcLOpens pmLOpens cdLOpens ctLOpens : Value}
    {fLaw : Addr} {odLaw anLaw : Option Addr} {slLaw : Array (Option Value)} {ocLaw kVLaw dcLaw pmLaw cdLaw ctLaw : Value}
    (X : K.In h) (G : h.Ns mainGlobals mg) (hfa : mg "law" = some (.ref fa))
    (aC : PySem.W.nsIn K mainGlobals "Journal" = some (some (.ref C)))
    (a_Put : PySem.W.nsIn K mainGlobals "put_number" = some (some (.ref fPut)))
    (l_Put : K.lookup fPut = some ⟨ocPut, odPut, .func (PySem.W.fnOf "put_number" "put_number" (defArgs sPut) (defBody sPut) (defScope sPut) .none kVPut dcPut pmPut anPut cdPut ctPut), slPut⟩)
    (c_Put : PySem.W.codeIn K cdPut "put_number" = true)
    (k_Put : PySem.W.keepIn K (.ref fPut) = true)
    (a_TakeN : PySem.W.nsIn K mainGlobals "take_number" = some (some (.ref fTakeN)))
    (l_TakeN : K.lookup fTakeN = some ⟨ocTakeN, odTakeN, .func (PySem.W.fnOf "take_number" "take_number" (defArgs sTakeN) (defBody sTakeN) (defScope sTakeN) .none kVTakeN dcTakeN pmTakeN anTakeN cdTakeN ctTakeN), slTakeN⟩)
    (c_TakeN : PySem.W.codeIn K cdTakeN "take_number" = true)
    (k_TakeN : PySem.W.keepIn K (.ref fTakeN) = true)
    (a_IsStr : PySem.W.nsIn K mainGlobals "is_string" = some (some (.ref fIsStr)))
    (l_IsStr : K.lookup fIsStr = some ⟨ocIsStr, odIsStr, .func (PySem.W.fnOf "is_string" "is_string" (defArgs sIsStr) (defBody sIsStr) (defScope sIsStr) .none kVIsStr dcIsStr pmIsStr anIsStr cdIsStr ctIsStr), slIsStr⟩)
    (c_IsStr : PySem.W.codeIn K cdIsStr "is_string" = true)
    (k_IsStr : PySem.W.keepIn K (.ref fIsStr) = true)
    (a_IsVW : PySem.W.nsIn K mainGlobals "is_value_within" = some (some (.ref fIsVW)))
    (l_IsVW : K.lookup fIsVW = some ⟨ocIsVW, odIsVW, .func (PySem.W.fnOf "is_value_within" "is_value_within" (defArgs sIsVW) (defBody sIsVW) (defScope sIsVW) .none kVIsVW dcIsVW pmIsVW anIsVW cdIsVW ctIsVW), slIsVW⟩)
    (c_IsVW : PySem.W.codeIn K cdIsVW "is_value_within" = true)
    (k_IsVW : PySem.W.keepIn K (.ref fIsVW) = true)
    (a_IsV : PySem.W.nsIn K mainGlobals "is_value" = some (some (.ref fIsV)))
    (l_IsV : K.lookup fIsV = some ⟨ocIsV, odIsV, .func (PySem.W.fnOf "is_value" "is_value" (defArgs sIsV) (defBody sIsV) (defScope sIsV) .none kVIsV dcIsV pmIsV anIsV cdIsV ctIsV), slIsV⟩)
    (c_IsV : PySem.W.codeIn K cdIsV "is_value" = true)
    (k_IsV : PySem.W.keepIn K (.ref fIsV) = true)
    (a_PackI : PySem.W.nsIn K mainGlobals "pack_into" = some (some (.ref fPackI)))
    (l_PackI : K.lookup fPackI = some ⟨ocPackI, odPackI, .func (PySem.W.fnOf "pack_into" "pack_into" (defArgs sPackI) (defBody sPackI) (defScope sPackI) .none kVPackI dcPackI pmPackI anPackI cdPackI ctPackI), slPackI⟩)
    (c_PackI : PySem.W.codeIn K cdPackI "pack_into" = true)
    (k_PackI : PySem.W.keepIn K (.ref fPackI) = true)
    (a_Pack : PySem.W.nsIn K mainGlobals "pack" = some (some (.ref fPack)))
    (l_Pack : K.lookup fPack = some ⟨ocPack, odPack, .func (PySem.W.fnOf "pack" "pack" (defArgs sPack) (defBody sPack) (defScope sPack) .none kVPack dcPack pmPack anPack cdPack ctPack), slPack⟩)
    (c_Pack : PySem.W.codeIn K cdPack "pack" = true)
    (k_Pack : PySem.W.keepIn K (.ref fPack) = true)
    (a_TakeI : PySem.W.nsIn K mainGlobals "take_integer" = some (some (.ref fTakeI)))
    (l_TakeI : K.lookup fTakeI = some ⟨ocTakeI, odTakeI, .func (PySem.W.fnOf "take_integer" "take_integer" (defArgs sTakeI) (defBody sTakeI) (defScope sTakeI) .none kVTakeI dcTakeI pmTakeI anTakeI cdTakeI ctTakeI), slTakeI⟩)
    (c_TakeI : PySem.W.codeIn K cdTakeI "take_integer" = true)
    (k_TakeI : PySem.W.keepIn K (.ref fTakeI) = true)
    (a_TakeL : PySem.W.nsIn K mainGlobals "take_length" = some (some (.ref fTakeL)))
    (l_TakeL : K.lookup fTakeL = some ⟨ocTakeL, odTakeL, .func (PySem.W.fnOf "take_length" "take_length" (defArgs sTakeL) (defBody sTakeL) (defScope sTakeL) .none kVTakeL dcTakeL pmTakeL anTakeL cdTakeL ctTakeL), slTakeL⟩)
    (c_TakeL : PySem.W.codeIn K cdTakeL "take_length" = true)
    (k_TakeL : PySem.W.keepIn K (.ref fTakeL) = true)
    (a_TakeS : PySem.W.nsIn K mainGlobals "take_string" = some (some (.ref fTakeS)))
    (l_TakeS : K.lookup fTakeS = some ⟨ocTakeS, odTakeS, .func (PySem.W.fnOf "take_string" "take_string" (defArgs sTakeS) (defBody sTakeS) (defScope sTakeS) .none kVTakeS dcTakeS pmTakeS anTakeS cdTakeS ctTakeS), slTakeS⟩)
    (c_TakeS : PySem.W.codeIn K cdTakeS "take_string" = true)
    (k_TakeS : PySem.W.keepIn K (.ref fTakeS) = true)
    (a_TakeT : PySem.W.nsIn K mainGlobals "take_tuple" = some (some (.ref fTakeT)))
    (l_TakeT : K.lookup fTakeT = some ⟨ocTakeT, odTakeT, .func (PySem.W.fnOf "take_tuple" "take_tuple" (defArgs sTakeT) (defBody sTakeT) (defScope sTakeT) .none kVTakeT dcTakeT pmTakeT anTakeT cdTakeT ctTakeT), slTakeT⟩)
    (c_TakeT : PySem.W.codeIn K cdTakeT "take_tuple" = true)
    (k_TakeT : PySem.W.keepIn K (.ref fTakeT) = true)
    (a_TakeV : PySem.W.nsIn K mainGlobals "take_value" = some (some (.ref fTakeV)))
    (l_TakeV : K.lookup fTakeV = some ⟨ocTakeV, odTakeV, .func (PySem.W.fnOf "take_value" "take_value" (defArgs sTakeV) (defBody sTakeV) (defScope sTakeV) .none kVTakeV dcTakeV pmTakeV anTakeV cdTakeV ctTakeV), slTakeV⟩)
    (c_TakeV : PySem.W.codeIn K cdTakeV "take_value" = true)
    (k_TakeV : PySem.W.keepIn K (.ref fTakeV) = true)
    (a_Unpack : PySem.W.nsIn K mainGlobals "unpack" = some (some (.ref fUnpack)))
    (l_Unpack : K.lookup fUnpack = some ⟨ocUnpack, odUnpack, .func (PySem.W.fnOf "unpack" "unpack" (defArgs sUnpack) (defBody sUnpack) (defScope sUnpack) .none kVUnpack dcUnpack pmUnpack anUnpack cdUnpack ctUnpack), slUnpack⟩)
    (c_Unpack : PySem.W.codeIn K cdUnpack "unpack" = true)
    (k_Unpack : PySem.W.keepIn K (.ref fUnpack) = true)
    (a_Ck : PySem.W.nsIn K mainGlobals "checksum" = some (some (.ref fCk)))
    (l_Ck : K.lookup fCk = some ⟨ocCk, odCk, .func (PySem.W.fnOf "checksum" "checksum" (defArgs sCk) (defBody sCk) (defScope sCk) (.ref tD) kVCk dcCk pmCk anCk cdCk ctCk), slCk⟩)
    (c_Ck : PySem.W.codeIn K cdCk "checksum" = true)
    (k_Ck : PySem.W.keepIn K (.ref fCk) = true)
    (a_Ckb : PySem.W.nsIn K mainGlobals "check_bytes" = some (some (.ref fCkb)))
    (l_Ckb : K.lookup fCkb = some ⟨ocCkb, odCkb, .func (PySem.W.fnOf "check_bytes" "check_bytes" (defArgs sCkb) (defBody sCkb) (defScope sCkb) .none kVCkb dcCkb pmCkb anCkb cdCkb ctCkb), slCkb⟩)
    (c_Ckb : PySem.W.codeIn K cdCkb "check_bytes" = true)
    (k_Ckb : PySem.W.keepIn K (.ref fCkb) = true)
    (a_MkSec : PySem.W.nsIn K mainGlobals "make_sector" = some (some (.ref fMkSec)))
    (l_MkSec : K.lookup fMkSec = some ⟨ocMkSec, odMkSec, .func (PySem.W.fnOf "make_sector" "make_sector" (defArgs sMkSec) (defBody sMkSec) (defScope sMkSec) .none kVMkSec dcMkSec pmMkSec anMkSec cdMkSec ctMkSec), slMkSec⟩)
    (c_MkSec : PySem.W.codeIn K cdMkSec "make_sector" = true)
    (k_MkSec : PySem.W.keepIn K (.ref fMkSec) = true)
    (a_RdSec : PySem.W.nsIn K mainGlobals "read_sector" = some (some (.ref fRdSec)))
    (l_RdSec : K.lookup fRdSec = some ⟨ocRdSec, odRdSec, .func (PySem.W.fnOf "read_sector" "read_sector" (defArgs sRdSec) (defBody sRdSec) (defScope sRdSec) .none kVRdSec dcRdSec pmRdSec anRdSec cdRdSec ctRdSec), slRdSec⟩)
    (c_RdSec : PySem.W.codeIn K cdRdSec "read_sector" = true)
    (k_RdSec : PySem.W.keepIn K (.ref fRdSec) = true)
    (a_PartsN : PySem.W.nsIn K mainGlobals "parts_needed" = some (some (.ref fPartsN)))
    (l_PartsN : K.lookup fPartsN = some ⟨ocPartsN, odPartsN, .func (PySem.W.fnOf "parts_needed" "parts_needed" (defArgs sPartsN) (defBody sPartsN) (defScope sPartsN) .none kVPartsN dcPartsN pmPartsN anPartsN cdPartsN ctPartsN), slPartsN⟩)
    (c_PartsN : PySem.W.codeIn K cdPartsN "parts_needed" = true)
    (k_PartsN : PySem.W.keepIn K (.ref fPartsN) = true)
    (a_SecAt : PySem.W.nsIn K mainGlobals "sector_at" = some (some (.ref fSecAt)))
    (l_SecAt : K.lookup fSecAt = some ⟨ocSecAt, odSecAt, .func (PySem.W.fnOf "sector_at" "sector_at" (defArgs sSecAt) (defBody sSecAt) (defScope sSecAt) .none kVSecAt dcSecAt pmSecAt anSecAt cdSecAt ctSecAt), slSecAt⟩)
    (c_SecAt : PySem.W.codeIn K cdSecAt "sector_at" = true)
    (k_SecAt : PySem.W.keepIn K (.ref fSecAt) = true)
    (a_RdHead : PySem.W.nsIn K mainGlobals "read_head" = some (some (.ref fRdHead)))
    (l_RdHead : K.lookup fRdHead = some ⟨ocRdHead, odRdHead, .func (PySem.W.fnOf "read_head" "read_head" (defArgs sRdHead) (defBody sRdHead) (defScope sRdHead) .none kVRdHead dcRdHead pmRdHead anRdHead cdRdHead ctRdHead), slRdHead⟩)
    (c_RdHead : PySem.W.codeIn K cdRdHead "read_head" = true)
    (k_RdHead : PySem.W.keepIn K (.ref fRdHead) = true)
    (a_NewHead : PySem.W.nsIn K mainGlobals "newest_head" = some (some (.ref fNewHead)))
    (l_NewHead : K.lookup fNewHead = some ⟨ocNewHead, odNewHead, .func (PySem.W.fnOf "newest_head" "newest_head" (defArgs sNewHead) (defBody sNewHead) (defScope sNewHead) .none kVNewHead dcNewHead pmNewHead anNewHead cdNewHead ctNewHead), slNewHead⟩)
    (c_NewHead : PySem.W.codeIn K cdNewHead "newest_head" = true)
    (k_NewHead : PySem.W.keepIn K (.ref fNewHead) = true)
    (a_RdPart : PySem.W.nsIn K mainGlobals "read_part" = some (some (.ref fRdPart)))
    (l_RdPart : K.lookup fRdPart = some ⟨ocRdPart, odRdPart, .func (PySem.W.fnOf "read_part" "read_part" (defArgs sRdPart) (defBody sRdPart) (defScope sRdPart) .none kVRdPart dcRdPart pmRdPart anRdPart cdRdPart ctRdPart), slRdPart⟩)
    (c_RdPart : PySem.W.codeIn K cdRdPart "read_part" = true)
    (k_RdPart : PySem.W.keepIn K (.ref fRdPart) = true)
    (a_RdRec : PySem.W.nsIn K mainGlobals "read_record" = some (some (.ref fRdRec)))
    (l_RdRec : K.lookup fRdRec = some ⟨ocRdRec, odRdRec, .func (PySem.W.fnOf "read_record" "read_record" (defArgs sRdRec) (defBody sRdRec) (defScope sRdRec) .none kVRdRec dcRdRec pmRdRec anRdRec cdRdRec ctRdRec), slRdRec⟩)
    (c_RdRec : PySem.W.codeIn K cdRdRec "read_record" = true)
    (k_RdRec : PySem.W.keepIn K (.ref fRdRec) = true)
    (a_RdRecs : PySem.W.nsIn K mainGlobals "read_records" = some (some (.ref fRdRecs)))
    (l_RdRecs : K.lookup fRdRecs = some ⟨ocRdRecs, odRdRecs, .func (PySem.W.fnOf "read_records" "read_records" (defArgs sRdRecs) (defBody sRdRecs) (defScope sRdRecs) .none kVRdRecs dcRdRecs pmRdRecs anRdRecs cdRdRecs ctRdRecs), slRdRecs⟩)
    (c_RdRecs : PySem.W.codeIn K cdRdRecs "read_records" = true)
    (k_RdRecs : PySem.W.keepIn K (.ref fRdRecs) = true)
    (a_ChkRecs : PySem.W.nsIn K mainGlobals "check_records" = some (some (.ref fChkRecs)))
    (l_ChkRecs : K.lookup fChkRecs = some ⟨ocChkRecs, odChkRecs, .func (PySem.W.fnOf "check_records" "check_records" (defArgs sChkRecs) (defBody sChkRecs) (defScope sChkRecs) .none kVChkRecs dcChkRecs pmChkRecs anChkRecs cdChkRecs ctChkRecs), slChkRecs⟩)
    (c_ChkRecs : PySem.W.codeIn K cdChkRecs "check_records" = true)
    (k_ChkRecs : PySem.W.keepIn K (.ref fChkRecs) = true)
    (a_PartW : PySem.W.nsIn K mainGlobals "part_writes" = some (some (.ref fPartW)))
    (l_PartW : K.lookup fPartW = some ⟨ocPartW, odPartW, .func (PySem.W.fnOf "part_writes" "part_writes" (defArgs sPartW) (defBody sPartW) (defScope sPartW) .none kVPartW dcPartW pmPartW anPartW cdPartW ctPartW), slPartW⟩)
    (c_PartW : PySem.W.codeIn K cdPartW "part_writes" = true)
    (k_PartW : PySem.W.keepIn K (.ref fPartW) = true)
    (a_JInit : PySem.W.findIn K (.ref C) "__init__" = some (some (.ref fJInit)))
    (i_JInit : PySem.W.isFn K (.ref fJInit) = true)
    (l_JInit : K.lookup fJInit = some ⟨ocJInit, odJInit, .func (PySem.W.fnOf "__init__" "Journal.__init__" (defArgs sJInit) (defBody sJInit) (defScope sJInit) .none kVJInit dcJInit pmJInit anJInit cdJInit ctJInit), slJInit⟩)
    (c_JInit : PySem.W.codeIn K cdJInit "Journal.__init__" = true)
    (k_JInit : PySem.W.keepIn K (.ref fJInit) = true)
    (a_JRecs : PySem.W.findIn K (.ref C) "records" = some (some (.ref fJRecs)))
    (i_JRecs : PySem.W.isFn K (.ref fJRecs) = true)
    (l_JRecs : K.lookup fJRecs = some ⟨ocJRecs, odJRecs, .func (PySem.W.fnOf "records" "Journal.records" (defArgs sJRecs) (defBody sJRecs) (defScope sJRecs) .none kVJRecs dcJRecs pmJRecs anJRecs cdJRecs ctJRecs), slJRecs⟩)
    (c_JRecs : PySem.W.codeIn K cdJRecs "Journal.records" = true)
    (k_JRecs : PySem.W.keepIn K (.ref fJRecs) = true)
    (a_JApp : PySem.W.findIn K (.ref C) "append" = some (some (.ref fJApp)))
    (i_JApp : PySem.W.isFn K (.ref fJApp) = true)
    (l_JApp : K.lookup fJApp = some ⟨ocJApp, odJApp, .func (PySem.W.fnOf "append" "Journal.append" (defArgs sJApp) (defBody sJApp) (defScope sJApp) .none kVJApp dcJApp pmJApp anJApp cdJApp ctJApp), slJApp⟩)
    (c_JApp : PySem.W.codeIn K cdJApp "Journal.append" = true)
    (k_JApp : PySem.W.keepIn K (.ref fJApp) = true)
    (a_JRew : PySem.W.findIn K (.ref C) "rewrite" = some (some (.ref fJRew)))
    (i_JRew : PySem.W.isFn K (.ref fJRew) = true)
    (l_JRew : K.lookup fJRew = some ⟨ocJRew, odJRew, .func (PySem.W.fnOf "rewrite" "Journal.rewrite" (defArgs sJRew) (defBody sJRew) (defScope sJRew) .none kVJRew dcJRew pmJRew anJRew cdJRew ctJRew), slJRew⟩)
    (c_JRew : PySem.W.codeIn K cdJRew "Journal.rewrite" = true)
    (k_JRew : PySem.W.keepIn K (.ref fJRew) = true)
    (a_Draws : PySem.W.nsIn K mainGlobals "_law_draws" = some (some (.ref fDraws)))
    (l_Draws : K.lookup fDraws = some ⟨ocDraws, odDraws, .func (PySem.W.fnOf "_law_draws" "_law_draws" (defArgs sDraws) (defBody sDraws) (defScope sDraws) .none kVDraws dcDraws pmDraws anDraws cdDraws ctDraws), slDraws⟩)
    (c_Draws : PySem.W.codeIn K cdDraws "_law_draws" = true)
    (k_Draws : PySem.W.keepIn K (.ref fDraws) = true)
    (a_Record : PySem.W.nsIn K mainGlobals "_law_record" = some (some (.ref fRecord)))
    (l_Record : K.lookup fRecord = some ⟨ocRecord, odRecord, .func (PySem.W.fnOf "_law_record" "_law_record" (defArgs sRecord) (defBody sRecord) (defScope sRecord) .none kVRecord dcRecord pmRecord anRecord cdRecord ctRecord), slRecord⟩)
    (c_Record : PySem.W.codeIn K cdRecord "_law_record" = true)
    (k_Record : PySem.W.keepIn K (.ref fRecord) = true)
    (a_LWrite : PySem.W.nsIn K mainGlobals "_law_write" = some (some (.ref fLWrite)))
    (l_LWrite : K.lookup fLWrite = some ⟨ocLWrite, odLWrite, .func (PySem.W.fnOf "_law_write" "_law_write" (defArgs sLWrite) (defBody sLWrite) (defScope sLWrite) .none kVLWrite dcLWrite pmLWrite anLWrite cdLWrite ctLWrite), slLWrite⟩)
    (c_LWrite : PySem.W.codeIn K cdLWrite "_law_write" = true)
    (k_LWrite : PySem.W.keepIn K (.ref fLWrite) = true)
    (a_LStep : PySem.W.nsIn K mainGlobals "_law_step" = some (some (.ref fLStep)))
    (l_LStep : K.lookup fLStep = some ⟨ocLStep, odLStep, .func (PySem.W.fnOf "_law_step" "_law_step" (defArgs sLStep) (defBody sLStep) (defScope sLStep) .none kVLStep dcLStep pmLStep anLStep cdLStep ctLStep), slLStep⟩)
    (c_LStep : PySem.W.codeIn K cdLStep "_law_step" = true)
    (k_LStep : PySem.W.keepIn K (.ref fLStep) = true)
    (a_LFall : PySem.W.nsIn K mainGlobals "_law_fall" = some (some (.ref fLFall)))
    (l_LFall : K.lookup fLFall = some ⟨ocLFall, odLFall, .func (PySem.W.fnOf "_law_fall" "_law_fall" (defArgs sLFall) (defBody sLFall) (defScope sLFall) .none kVLFall dcLFall pmLFall anLFall cdLFall ctLFall), slLFall⟩)
    (c_LFall : PySem.W.codeIn K cdLFall "_law_fall" = true)
    (k_LFall : PySem.W.keepIn K (.ref fLFall) = true)
    (a_LRun : PySem.W.nsIn K mainGlobals "_law_run_steps" = some (some (.ref fLRun)))
    (l_LRun : K.lookup fLRun = some ⟨ocLRun, odLRun, .func (PySem.W.fnOf "_law_run_steps" "_law_run_steps" (defArgs sLRun) (defBody sLRun) (defScope sLRun) .none kVLRun dcLRun pmLRun anLRun cdLRun ctLRun), slLRun⟩)
    (c_LRun : PySem.W.codeIn K cdLRun "_law_run_steps" = true)
    (k_LRun : PySem.W.keepIn K (.ref fLRun) = true)
    (a_LPoss : PySem.W.nsIn K mainGlobals "_law_is_possible" = some (some (.ref fLPoss)))
    (l_LPoss : K.lookup fLPoss = some ⟨ocLPoss, odLPoss, .func (PySem.W.fnOf "_law_is_possible" "_law_is_possible" (defArgs sLPoss) (defBody sLPoss) (defScope sLPoss) .none kVLPoss dcLPoss pmLPoss anLPoss cdLPoss ctLPoss), slLPoss⟩)
    (c_LPoss : PySem.W.codeIn K cdLPoss "_law_is_possible" = true)
    (k_LPoss : PySem.W.keepIn K (.ref fLPoss) = true)
    (a_LOpens : PySem.W.nsIn K mainGlobals "_law_opens" = some (some (.ref fLOpens)))
    (l_LOpens : K.lookup fLOpens = some ⟨ocLOpens, odLOpens, .func (PySem.W.fnOf "_law_opens" "_law_opens" (defArgs sLOpens) (defBody sLOpens) (defScope sLOpens) .none kVLOpens dcLOpens pmLOpens anLOpens cdLOpens ctLOpens), slLOpens⟩)
    (c_LOpens : PySem.W.codeIn K cdLOpens "_law_opens" = true)
    (k_LOpens : PySem.W.keepIn K (.ref fLOpens) = true)
    (a_Law : PySem.W.nsIn K mainGlobals "law" = some (some (.ref fLaw)))
    (l_Law : K.lookup fLaw = some ⟨ocLaw, odLaw, .func (PySem.W.fnOf "law" "law" (defArgs sLaw) (defBody sLaw) (defScope sLaw) .none kVLaw dcLaw pmLaw anLaw cdLaw ctLaw), slLaw⟩)
    (c_Law : PySem.W.codeIn K cdLaw "law" = true)
    (k_Law : PySem.W.keepIn K (.ref fLaw) = true)
    (lD : K.lookup tD = some ⟨.type "tuple", ddD, .seq itD nD, slD⟩)
    (vD : itD.toList = [.ref tC])
    (lC : K.lookup tC = some ⟨.type "tuple", ddC, .seq itC nC, slC⟩)
    (vC : itC.toList.map absV = ([1, 1] : List Int).map (fun n => some (V.int n)))
    (aB : PySem.W.nsIn K mainGlobals "BLANK" = some (some (.ref tB)))
    (lB : K.lookup tB = some ⟨.type "tuple", ddB, .seq itB nB, slB⟩)
    (vB : itB.toList.map absV = (List.replicate 64 (0 : Int)).map (fun n => some (V.int n)))
    (pg : PySem.W.plainGet K C Str.empty = true)
    (hd : PySem.W.hasDictIn K C = true)
    (po : PySem.W.plainOver K C = true)
    (sa : PySem.W.findIn K (.ref C) "__setattr__" = some (some (.builtin "object.__setattr__")))
    (mk : PySem.W.makesIn K C = true)
    (kc : PySem.W.keepIn K (.ref C) = true)
    (n_boot : PySem.W.findIn K (.ref C) "_boot" = some none)
    (n_generation : PySem.W.findIn K (.ref C) "_generation" = some none)
    (n_start : PySem.W.findIn K (.ref C) "_start" = some none)
    (n_end : PySem.W.findIn K (.ref C) "_end" = some none)
    (n_records : PySem.W.findIn K (.ref C) "_records" = some none)
    (z_range : PySem.W.nsIn K mainGlobals "range" = some none)
    (z_len : PySem.W.nsIn K mainGlobals "len" = some none)
    (z_isinstance : PySem.W.nsIn K mainGlobals "isinstance" = some none)
    (z_str : PySem.W.nsIn K mainGlobals "str" = some none)
    (z_bool : PySem.W.nsIn K mainGlobals "bool" = some none)
    (z_int : PySem.W.nsIn K mainGlobals "int" = some none)
    (z_tuple : PySem.W.nsIn K mainGlobals "tuple" = some none)
    (z_list : PySem.W.nsIn K mainGlobals "list" = some none)
    (z_ord : PySem.W.nsIn K mainGlobals "ord" = some none)
    (z_abs : PySem.W.nsIn K mainGlobals "abs" = some none)
    (z_max : PySem.W.nsIn K mainGlobals "max" = some none)
    (q_LONGEST : PySem.W.nsIn K mainGlobals "LONGEST" = some (some (.int 500 t_LONGEST)))
    (q_BITS : PySem.W.nsIn K mainGlobals "BITS" = some (some (.int 3000 t_BITS)))
    (q_LENGTH : PySem.W.nsIn K mainGlobals "LENGTH" = some (some (.int 60000 t_LENGTH)))
    (q_DEPTH : PySem.W.nsIn K mainGlobals "DEPTH" = some (some (.int 20 t_DEPTH)))
    (q_MODULUS : PySem.W.nsIn K mainGlobals "MODULUS" = some (some (.int 65521 t_MODULUS)))
    (q_PAYLOAD : PySem.W.nsIn K mainGlobals "PAYLOAD" = some (some (.int 58 t_PAYLOAD)))
    (q_KINDS : PySem.W.nsIn K mainGlobals "KINDS" = some (some (.int 9 t_KINDS)))
    (q_HEAD : PySem.W.nsIn K mainGlobals "HEAD" = some (some (.int 1 t_HEAD)))
    (q_PART : PySem.W.nsIn K mainGlobals "PART" = some (some (.int 2 t_PART)))
    (q_PIECE : PySem.W.nsIn K mainGlobals "PIECE" = some (some (.int 40 t_PIECE)))
    (q_FIRST : PySem.W.nsIn K mainGlobals "FIRST" = some (some (.int 2 t_FIRST)))
    (q_CHARS : PySem.W.nsIn K mainGlobals "CHARS" = some (some (.str zc tCH)))
    (e_CHARS : zc = chars) :
    ∃ fd : FuncData, (∀ (s : Shared) (v : Value), BindsTo s fd ⟨[v], []⟩ [("_law_script", v)]) ∧ ∀ base : Heap, K.In base → base.Ns mainGlobals mg → FnOk l.prog w K mg base CX0 15 fa fd ["_law_script"] (spLaw K) := by
  have e := hfa.symm.trans (PySem.W.mg_of X G a_Law)
  cases e
  subst e_CHARS
  have sB : ∀ H, SqT K H tB ((List.replicate 64 (0 : Int)).map V.int) := fun H => .inr ⟨_, itB, nB, lB, rfl, rfl, by have := congrArg List.length vB; rw [List.length_map, List.length_map, List.length_replicate, Array.length_toList] at this; rw [this]; decide, vals_abs vB⟩
  have sC : ∀ H, SqT K H tC [.int 1, .int 1] := fun H => .inr ⟨_, itC, nC, lC, rfl, rfl, by have := congrArg List.length vC; rw [List.length_map, Array.length_toList] at this; rw [this]; decide, vals_abs (ns := [1, 1]) vC⟩
  have T : Txt K mg C := { b_range := PySem.W.mg_none_of X G z_range, b_len := PySem.W.mg_none_of X G z_len, b_isinstance := PySem.W.mg_none_of X G z_isinstance, b_str := PySem.W.mg_none_of X G z_str, b_bool := PySem.W.mg_none_of X G z_bool, b_int := PySem.W.mg_none_of X G z_int, b_tuple := PySem.W.mg_none_of X G z_tuple, b_list := PySem.W.mg_none_of X G z_list, b_ord := PySem.W.mg_none_of X G z_ord, b_abs := PySem.W.mg_none_of X G z_abs, b_max := PySem.W.mg_none_of X G z_max, c_LONGEST := ⟨_, PySem.W.mg_of X G q_LONGEST, _, rfl⟩, c_BITS := ⟨_, PySem.W.mg_of X G q_BITS, _, rfl⟩, c_LENGTH := ⟨_, PySem.W.mg_of X G q_LENGTH, _, rfl⟩, c_DEPTH := ⟨_, PySem.W.mg_of X G q_DEPTH, _, rfl⟩, c_MODULUS := ⟨_, PySem.W.mg_of X G q_MODULUS, _, rfl⟩, c_PAYLOAD := ⟨_, PySem.W.mg_of X G q_PAYLOAD, _, rfl⟩, c_KINDS := ⟨_, PySem.W.mg_of X G q_KINDS, _, rfl⟩, c_HEAD := ⟨_, PySem.W.mg_of X G q_HEAD, _, rfl⟩, c_PART := ⟨_, PySem.W.mg_of X G q_PART, _, rfl⟩, c_PIECE := ⟨_, PySem.W.mg_of X G q_PIECE, _, rfl⟩, c_FIRST := ⟨_, PySem.W.mg_of X G q_FIRST, _, rfl⟩, c_CHARS := ⟨_, PySem.W.mg_of X G q_CHARS, _, rfl⟩, blank := ⟨tB, ⟨_, PySem.W.mg_of X G aB, rfl⟩, sB⟩, cl := ⟨pg, hd, po, sa⟩, n_boot := n_boot, n_generation := n_generation, n_start := n_start, n_end := n_end, n_records := n_records, mgC := PySem.W.mg_of X G aC }
  have FPut := fun_mk (st := sPut) l_Put c_Put k_Put
  have bPut := FPut.binds (ps := ["number"]) fun _ _ _ _ _ _ us hl => match us, hl with | [_], _ => rfl
  have FTakeN := fun_mk (st := sTakeN) l_TakeN c_TakeN k_TakeN
  have bTakeN := FTakeN.binds (ps := ["row", "index"]) fun _ _ _ _ _ _ us hl => match us, hl with | [_, _], _ => rfl
  have FIsStr := fun_mk (st := sIsStr) l_IsStr c_IsStr k_IsStr
  have bIsStr := FIsStr.binds (ps := ["value"]) fun _ _ _ _ _ _ us hl => match us, hl with | [_], _ => rfl
  have FIsVW := fun_mk (st := sIsVW) l_IsVW c_IsVW k_IsVW
  have bIsVW := FIsVW.binds (ps := ["value", "depth"]) fun _ _ _ _ _ _ us hl => match us, hl with | [_, _], _ => rfl
  have FIsV := fun_mk (st := sIsV) l_IsV c_IsV k_IsV
  have bIsV := FIsV.binds (ps := ["value"]) fun _ _ _ _ _ _ us hl => match us, hl with | [_], _ => rfl
  have FPackI := fun_mk (st := sPackI) l_PackI c_PackI k_PackI
  have bPackI := FPackI.binds (ps := ["row", "value"]) fun _ _ _ _ _ _ us hl => match us, hl with | [_, _], _ => rfl
  have FPack := fun_mk (st := sPack) l_Pack c_Pack k_Pack
  have bPack := FPack.binds (ps := ["value"]) fun _ _ _ _ _ _ us hl => match us, hl with | [_], _ => rfl
  have FTakeI := fun_mk (st := sTakeI) l_TakeI c_TakeI k_TakeI
  have bTakeI := FTakeI.binds (ps := ["row", "index", "negative"]) fun _ _ _ _ _ _ us hl => match us, hl with | [_, _, _], _ => rfl
  have FTakeL := fun_mk (st := sTakeL) l_TakeL c_TakeL k_TakeL
  have bTakeL := FTakeL.binds (ps := ["row", "index"]) fun _ _ _ _ _ _ us hl => match us, hl with | [_, _], _ => rfl
  have FTakeS := fun_mk (st := sTakeS) l_TakeS c_TakeS k_TakeS
  have bTakeS := FTakeS.binds (ps := ["row", "index"]) fun _ _ _ _ _ _ us hl => match us, hl with | [_, _], _ => rfl
  have FTakeT := fun_mk (st := sTakeT) l_TakeT c_TakeT k_TakeT
  have bTakeT := FTakeT.binds (ps := ["row", "index", "depth"]) fun _ _ _ _ _ _ us hl => match us, hl with | [_, _, _], _ => rfl
  have FTakeV := fun_mk (st := sTakeV) l_TakeV c_TakeV k_TakeV
  have bTakeV := FTakeV.binds (ps := ["row", "index", "depth"]) fun _ _ _ _ _ _ us hl => match us, hl with | [_, _, _], _ => rfl
  have FUnpack := fun_mk (st := sUnpack) l_Unpack c_Unpack k_Unpack
  have bUnpack := FUnpack.binds (ps := ["row"]) fun _ _ _ _ _ _ us hl => match us, hl with | [_], _ => rfl
  have FCk : FunD K "checksum" "checksum" (defArgs sCk) (defBody sCk) (defScope sCk) [.ref tC] [] fCk (PySem.W.fnOf "checksum" "checksum" (defArgs sCk) (defBody sCk) (defScope sCk) (.ref tD) kVCk dcCk pmCk anCk cdCk ctCk) :=
    ⟨⟨_, _, _, _, _, _, _, _, _, _, rfl, l_Ck, c_Ck, .inr ⟨List.cons_ne_nil _ _, tD, _, [.ref tC], nD, rfl, lD, by rw [← vD], .cons rfl .nil⟩, .inl rfl⟩, k_Ck⟩
  have bCk := FCk.binds1 (ps := ["row", "start"]) 1 0 (List.cons_ne_nil _ _) rfl (fun _ _ _ _ _ _ _ us its hl hi => match us, its, hl, hi with | [_], [_], _, _ => ⟨_, rfl, rfl⟩)
  have FCkb := fun_mk (st := sCkb) l_Ckb c_Ckb k_Ckb
  have bCkb := FCkb.binds (ps := ["pair"]) fun _ _ _ _ _ _ us hl => match us, hl with | [_], _ => rfl
  have FMkSec := fun_mk (st := sMkSec) l_MkSec c_MkSec k_MkSec
  have bMkSec := FMkSec.binds (ps := ["kind", "payload"]) fun _ _ _ _ _ _ us hl => match us, hl with | [_, _], _ => rfl
  have FRdSec := fun_mk (st := sRdSec) l_RdSec c_RdSec k_RdSec
  have bRdSec := FRdSec.binds (ps := ["sector"]) fun _ _ _ _ _ _ us hl => match us, hl with | [_], _ => rfl
  have FPartsN := fun_mk (st := sPartsN) l_PartsN c_PartsN k_PartsN
  have bPartsN := FPartsN.binds (ps := ["record"]) fun _ _ _ _ _ _ us hl => match us, hl with | [_], _ => rfl
  have FSecAt := fun_mk (st := sSecAt) l_SecAt c_SecAt k_SecAt
  have bSecAt := FSecAt.binds (ps := ["sectors", "index"]) fun _ _ _ _ _ _ us hl => match us, hl with | [_, _], _ => rfl
  have FRdHead := fun_mk (st := sRdHead) l_RdHead c_RdHead k_RdHead
  have bRdHead := FRdHead.binds (ps := ["sectors", "index"]) fun _ _ _ _ _ _ us hl => match us, hl with | [_, _], _ => rfl
  have FNewHead := fun_mk (st := sNewHead) l_NewHead c_NewHead k_NewHead
  have bNewHead := FNewHead.binds (ps := ["sectors"]) fun _ _ _ _ _ _ us hl => match us, hl with | [_], _ => rfl
  have FRdPart := fun_mk (st := sRdPart) l_RdPart c_RdPart k_RdPart
  have bRdPart := FRdPart.binds (ps := ["sectors", "index"]) fun _ _ _ _ _ _ us hl => match us, hl with | [_, _], _ => rfl
  have FRdRec := fun_mk (st := sRdRec) l_RdRec c_RdRec k_RdRec
  have bRdRec := FRdRec.binds (ps := ["sectors", "place", "generation", "index", "boot"]) fun _ _ _ _ _ _ us hl => match us, hl with | [_, _, _, _, _], _ => rfl
  have FRdRecs := fun_mk (st := sRdRecs) l_RdRecs c_RdRecs k_RdRecs
  have bRdRecs := FRdRecs.binds (ps := ["sectors", "head"]) fun _ _ _ _ _ _ us hl => match us, hl with | [_, _], _ => rfl
  have FChkRecs := fun_mk (st := sChkRecs) l_ChkRecs c_ChkRecs k_ChkRecs
  have bChkRecs := FChkRecs.binds (ps := ["records"]) fun _ _ _ _ _ _ us hl => match us, hl with | [_], _ => rfl
  have FPartW := fun_mk (st := sPartW) l_PartW c_PartW k_PartW
  have bPartW := FPartW.binds (ps := ["record", "place", "numbers"]) fun _ _ _ _ _ _ us hl => match us, hl with | [_, _, _], _ => rfl
  have FJInit := fun_mk (st := sJInit) l_JInit c_JInit k_JInit
  have bJInit := FJInit.binds (ps := ["self", "sectors", "boot"]) fun _ _ _ _ _ _ us hl => match us, hl with | [_, _, _], _ => rfl
  have FJRecs := fun_mk (st := sJRecs) l_JRecs c_JRecs k_JRecs
  have bJRecs := FJRecs.binds (ps := ["self"]) fun _ _ _ _ _ _ us hl => match us, hl with | [_], _ => rfl
  have FJApp := fun_mk (st := sJApp) l_JApp c_JApp k_JApp
  have bJApp := FJApp.binds (ps := ["self", "records"]) fun _ _ _ _ _ _ us hl => match us, hl with | [_, _], _ => rfl
  have FJRew := fun_mk (st := sJRew) l_JRew c_JRew k_JRew
  have bJRew := FJRew.binds (ps := ["self", "records"]) fun _ _ _ _ _ _ us hl => match us, hl with | [_, _], _ => rfl
  have FDraws := fun_mk (st := sDraws) l_Draws c_Draws k_Draws
  have bDraws := FDraws.binds (ps := ["_law_script", "_law_many"]) fun _ _ _ _ _ _ us hl => match us, hl with | [_, _], _ => rfl
  have FRecord := fun_mk (st := sRecord) l_Record c_Record k_Record
  have bRecord := FRecord.binds (ps := ["_law_draws_here"]) fun _ _ _ _ _ _ us hl => match us, hl with | [_], _ => rfl
  have FLWrite := fun_mk (st := sLWrite) l_LWrite c_LWrite k_LWrite
  have bLWrite := FLWrite.binds (ps := ["_law_disk", "_law_index", "_law_sector"]) fun _ _ _ _ _ _ us hl => match us, hl with | [_, _, _], _ => rfl
  have FLStep := fun_mk (st := sLStep) l_LStep c_LStep k_LStep
  have bLStep := FLStep.binds (ps := ["_law_disk", "_law_unsafe", "_law_step_here"]) fun _ _ _ _ _ _ us hl => match us, hl with | [_, _, _], _ => rfl
  have FLFall := fun_mk (st := sLFall) l_LFall c_LFall k_LFall
  have bLFall := FLFall.binds (ps := ["_law_disk", "_law_unsafe", "_law_draws_here"]) fun _ _ _ _ _ _ us hl => match us, hl with | [_, _, _], _ => rfl
  have FLRun := fun_mk (st := sLRun) l_LRun c_LRun k_LRun
  have bLRun := FLRun.binds (ps := ["_law_disk", "_law_steps", "_law_count"]) fun _ _ _ _ _ _ us hl => match us, hl with | [_, _, _], _ => rfl
  have FLPoss := fun_mk (st := sLPoss) l_LPoss c_LPoss k_LPoss
  have bLPoss := FLPoss.binds (ps := ["_law_actual", "_law_before", "_law_after", "_law_rewrites"]) fun _ _ _ _ _ _ us hl => match us, hl with | [_, _, _, _], _ => rfl
  have FLOpens := fun_mk (st := sLOpens) l_LOpens c_LOpens k_LOpens
  have bLOpens := FLOpens.binds (ps := ["_law_disk", "_law_boot", "_law_before", "_law_after", "_law_rewrites"]) fun _ _ _ _ _ _ us hl => match us, hl with | [_, _, _, _, _], _ => rfl
  have FLaw := fun_mk (st := sLaw) l_Law c_Law k_Law
  have bLaw := FLaw.binds (ps := ["_law_script"]) fun _ _ _ _ _ _ us hl => match us, hl with | [_], _ => rfl
  refine ⟨PySem.W.fnOf "law" "law" (defArgs sLaw) (defBody sLaw) (defScope sLaw) .none kVLaw dcLaw pmLaw anLaw cdLaw ctLaw, fun s v => .of_eq rfl, fun base _ _ => ?_⟩
  exact chain T ⟨mk, a_JInit, i_JInit, kc⟩ FPut bPut (PySem.W.mg_of X G a_Put)
    FTakeN bTakeN (PySem.W.mg_of X G a_TakeN)
    FIsStr bIsStr (PySem.W.mg_of X G a_IsStr)
    FIsVW bIsVW (PySem.W.mg_of X G a_IsVW)
    FIsV bIsV (PySem.W.mg_of X G a_IsV)
    FPackI bPackI (PySem.W.mg_of X G a_PackI)
    FPack bPack (PySem.W.mg_of X G a_Pack)
    FTakeI bTakeI (PySem.W.mg_of X G a_TakeI)
    FTakeL bTakeL (PySem.W.mg_of X G a_TakeL)
    FTakeS bTakeS (PySem.W.mg_of X G a_TakeS)
    FTakeT bTakeT (PySem.W.mg_of X G a_TakeT)
    FTakeV bTakeV (PySem.W.mg_of X G a_TakeV)
    FUnpack bUnpack (PySem.W.mg_of X G a_Unpack)
    FCk bCk (PySem.W.mg_of X G a_Ck) sC
    FCkb bCkb (PySem.W.mg_of X G a_Ckb)
    FMkSec bMkSec (PySem.W.mg_of X G a_MkSec)
    FRdSec bRdSec (PySem.W.mg_of X G a_RdSec)
    FPartsN bPartsN (PySem.W.mg_of X G a_PartsN)
    FSecAt bSecAt (PySem.W.mg_of X G a_SecAt)
    FRdHead bRdHead (PySem.W.mg_of X G a_RdHead)
    FNewHead bNewHead (PySem.W.mg_of X G a_NewHead)
    FRdPart bRdPart (PySem.W.mg_of X G a_RdPart)
    FRdRec bRdRec (PySem.W.mg_of X G a_RdRec)
    FRdRecs bRdRecs (PySem.W.mg_of X G a_RdRecs)
    FChkRecs bChkRecs (PySem.W.mg_of X G a_ChkRecs)
    FPartW bPartW (PySem.W.mg_of X G a_PartW)
    FJInit bJInit
    FJRecs bJRecs ⟨a_JRecs, i_JRecs, k_JRecs⟩
    FJApp bJApp ⟨a_JApp, i_JApp, k_JApp⟩
    FJRew bJRew ⟨a_JRew, i_JRew, k_JRew⟩
    FDraws bDraws (PySem.W.mg_of X G a_Draws)
    FRecord bRecord (PySem.W.mg_of X G a_Record)
    FLWrite bLWrite (PySem.W.mg_of X G a_LWrite)
    FLStep bLStep (PySem.W.mg_of X G a_LStep)
    FLFall bLFall (PySem.W.mg_of X G a_LFall)
    FLRun bLRun (PySem.W.mg_of X G a_LRun)
    FLPoss bLPoss (PySem.W.mg_of X G a_LPoss)
    FLOpens bLOpens (PySem.W.mg_of X G a_LOpens)
    FLaw bLaw (PySem.W.mg_of X G a_Law)
theorem walk {l : PySem.W.OpenLaw} {q : Program} {loose : List Str} {XP : (Str → Option Value) → Heap → Prop} {YP : World → Heap → Prop} {d : DefRec} {K : Params → PySem.W.Frag} (hn : l.most = some 63) (hdf : d.params.defaults = [])
    (hY : ∀ (w : World) (h : Heap), YP w h → (K w.params).In h)
    (F : ∀ (w : World) (mg : Str → Option Value) (fa : Addr) (h : Heap), (K w.params).In h → h.Ns mainGlobals mg → mg d.name = some (.ref fa) →
      ∃ fd : FuncData, (∀ (s : Shared) (u : Value), BindsTo s fd ⟨[u], []⟩ [("_law_script", u)]) ∧ ∀ base : Heap, (K w.params).In base → base.Ns mainGlobals mg → FnOk l.prog w (K w.params) mg base CX0 15 fa fd ["_law_script"] (spLaw (K w.params))) :
    PySem.W.WalkO q loose XP YP l.row.toRowW d [] (fun f vs => PySem.call f vs) :=
  L2.walk_of (n := 63) (k := 15) (x := "_law_script") (CX := fun _ => CX0) (sp := fun w => spLaw (K w.params)) hn (by decide) hdf ⟨rfl, by decide, by decide⟩ hY F (fun _ _ a ns hl _ hS => ⟨a, ns, rfl, hS, hl, fun _ => rfl⟩) fun _ _ _ _ _ z => z
end Mj
open PySem PySem.W PyProof.Rows
set_option Elab.async false
set_option maxRecDepth 100000 in
set_option maxHeartbeats 0 in
theorem PySem.Challenge.cw_majordomo_k10_whole_falls_of_a_journal_holds : PySem.Challenge.rw_majordomo_k10_whole_falls_of_a_journal.Holds := by
  w_on; o_law; k_head; (case hw => w_witness2)
  k_fill
  refine Mj.walk (l := PySem.Challenge.rw_majordomo_k10_whole_falls_of_a_journal) rfl rfl (fun w h Y => PySem.W.kIn_of Y) ?F
  case F =>
    intro w mg fa h KX G hmg
    refine' Mj.all_mk KX G hmg ?aC ?a_Put ?l_Put ?c_Put ?k_Put ?a_TakeN ?l_TakeN ?c_TakeN ?k_TakeN ?a_IsStr ?l_IsStr ?c_IsStr ?k_IsStr ?a_IsVW ?l_IsVW ?c_IsVW ?k_IsVW ?a_IsV ?l_IsV ?c_IsV ?k_IsV ?a_PackI ?l_PackI ?c_PackI ?k_PackI ?a_Pack ?l_Pack ?c_Pack ?k_Pack ?a_TakeI ?l_TakeI ?c_TakeI ?k_TakeI ?a_TakeL ?l_TakeL ?c_TakeL ?k_TakeL ?a_TakeS ?l_TakeS ?c_TakeS ?k_TakeS ?a_TakeT ?l_TakeT ?c_TakeT ?k_TakeT ?a_TakeV ?l_TakeV ?c_TakeV ?k_TakeV ?a_Unpack ?l_Unpack ?c_Unpack ?k_Unpack ?a_Ck ?l_Ck ?c_Ck ?k_Ck ?a_Ckb ?l_Ckb ?c_Ckb ?k_Ckb ?a_MkSec ?l_MkSec ?c_MkSec ?k_MkSec ?a_RdSec ?l_RdSec ?c_RdSec ?k_RdSec ?a_PartsN ?l_PartsN ?c_PartsN ?k_PartsN ?a_SecAt ?l_SecAt ?c_SecAt ?k_SecAt ?a_RdHead ?l_RdHead ?c_RdHead ?k_RdHead ?a_NewHead ?l_NewHead ?c_NewHead ?k_NewHead ?a_RdPart ?l_RdPart ?c_RdPart ?k_RdPart ?a_RdRec ?l_RdRec ?c_RdRec ?k_RdRec ?a_RdRecs ?l_RdRecs ?c_RdRecs ?k_RdRecs ?a_ChkRecs ?l_ChkRecs ?c_ChkRecs ?k_ChkRecs ?a_PartW ?l_PartW ?c_PartW ?k_PartW ?a_JInit ?i_JInit ?l_JInit ?c_JInit ?k_JInit ?a_JRecs ?i_JRecs ?l_JRecs ?c_JRecs ?k_JRecs ?a_JApp ?i_JApp ?l_JApp ?c_JApp ?k_JApp ?a_JRew ?i_JRew ?l_JRew ?c_JRew ?k_JRew ?a_Draws ?l_Draws ?c_Draws ?k_Draws ?a_Record ?l_Record ?c_Record ?k_Record ?a_LWrite ?l_LWrite ?c_LWrite ?k_LWrite ?a_LStep ?l_LStep ?c_LStep ?k_LStep ?a_LFall ?l_LFall ?c_LFall ?k_LFall ?a_LRun ?l_LRun ?c_LRun ?k_LRun ?a_LPoss ?l_LPoss ?c_LPoss ?k_LPoss ?a_LOpens ?l_LOpens ?c_LOpens ?k_LOpens ?a_Law ?l_Law ?c_Law ?k_Law ?lD ?vD ?lC ?vC ?aB ?lB ?vB ?pg ?hd ?po ?sa ?mk ?kc ?n_boot ?n_generation ?n_start ?n_end ?n_records ?z_range ?z_len ?z_isinstance ?z_str ?z_bool ?z_int ?z_tuple ?z_list ?z_ord ?z_abs ?z_max ?q_LONGEST ?q_BITS ?q_LENGTH ?q_DEPTH ?q_MODULUS ?q_PAYLOAD ?q_KINDS ?q_HEAD ?q_PART ?q_PIECE ?q_FIRST ?q_CHARS ?e_CHARS
    (case aC => k_is)
    (case a_Put => k_is)
    (case l_Put => k_is)
    (case c_Put => k_is)
    (case k_Put => k_is)
    (case a_TakeN => k_is)
    (case l_TakeN => k_is)
    (case c_TakeN => k_is)
    (case k_TakeN => k_is)
    (case a_IsStr => k_is)
    (case l_IsStr => k_is)
    (case c_IsStr => k_is)
    (case k_IsStr => k_is)
    (case a_IsVW => k_is)
    (case l_IsVW => k_is)
    (case c_IsVW => k_is)
    (case k_IsVW => k_is)
    (case a_IsV => k_is)
    (case l_IsV => k_is)
    (case c_IsV => k_is)
    (case k_IsV => k_is)
    (case a_PackI => k_is)
    (case l_PackI => k_is)
    (case c_PackI => k_is)
    (case k_PackI => k_is)
    (case a_Pack => k_is)
    (case l_Pack => k_is)
    (case c_Pack => k_is)
    (case k_Pack => k_is)
    (case a_TakeI => k_is)
    (case l_TakeI => k_is)
    (case c_TakeI => k_is)
    (case k_TakeI => k_is)
    (case a_TakeL => k_is)
    (case l_TakeL => k_is)
    (case c_TakeL => k_is)
    (case k_TakeL => k_is)
    (case a_TakeS => k_is)
    (case l_TakeS => k_is)
    (case c_TakeS => k_is)
    (case k_TakeS => k_is)
    (case a_TakeT => k_is)
    (case l_TakeT => k_is)
    (case c_TakeT => k_is)
    (case k_TakeT => k_is)
    (case a_TakeV => k_is)
    (case l_TakeV => k_is)
    (case c_TakeV => k_is)
    (case k_TakeV => k_is)
    (case a_Unpack => k_is)
    (case l_Unpack => k_is)
    (case c_Unpack => k_is)
    (case k_Unpack => k_is)
    (case a_Ck => k_is)
    (case l_Ck => k_is)
    (case c_Ck => k_is)
    (case k_Ck => k_is)
    (case a_Ckb => k_is)
    (case l_Ckb => k_is)
    (case c_Ckb => k_is)
    (case k_Ckb => k_is)
    (case a_MkSec => k_is)
    (case l_MkSec => k_is)
    (case c_MkSec => k_is)
    (case k_MkSec => k_is)
    (case a_RdSec => k_is)
    (case l_RdSec => k_is)
    (case c_RdSec => k_is)
    (case k_RdSec => k_is)
    (case a_PartsN => k_is)
    (case l_PartsN => k_is)
    (case c_PartsN => k_is)
    (case k_PartsN => k_is)
    (case a_SecAt => k_is)
    (case l_SecAt => k_is)
    (case c_SecAt => k_is)
    (case k_SecAt => k_is)
    (case a_RdHead => k_is)
    (case l_RdHead => k_is)
    (case c_RdHead => k_is)
    (case k_RdHead => k_is)
    (case a_NewHead => k_is)
    (case l_NewHead => k_is)
    (case c_NewHead => k_is)
    (case k_NewHead => k_is)
    (case a_RdPart => k_is)
    (case l_RdPart => k_is)
    (case c_RdPart => k_is)
    (case k_RdPart => k_is)
    (case a_RdRec => k_is)
    (case l_RdRec => k_is)
    (case c_RdRec => k_is)
    (case k_RdRec => k_is)
    (case a_RdRecs => k_is)
    (case l_RdRecs => k_is)
    (case c_RdRecs => k_is)
    (case k_RdRecs => k_is)
    (case a_ChkRecs => k_is)
    (case l_ChkRecs => k_is)
    (case c_ChkRecs => k_is)
    (case k_ChkRecs => k_is)
    (case a_PartW => k_is)
    (case l_PartW => k_is)
    (case c_PartW => k_is)
    (case k_PartW => k_is)
    (case a_JInit => k_is)
    (case i_JInit => k_is)
    (case l_JInit => k_is)
    (case c_JInit => k_is)
    (case k_JInit => k_is)
    (case a_JRecs => k_is)
    (case i_JRecs => k_is)
    (case l_JRecs => k_is)
    (case c_JRecs => k_is)
    (case k_JRecs => k_is)
    (case a_JApp => k_is)
    (case i_JApp => k_is)
    (case l_JApp => k_is)
    (case c_JApp => k_is)
    (case k_JApp => k_is)
    (case a_JRew => k_is)
    (case i_JRew => k_is)
    (case l_JRew => k_is)
    (case c_JRew => k_is)
    (case k_JRew => k_is)
    (case a_Draws => k_is)
    (case l_Draws => k_is)
    (case c_Draws => k_is)
    (case k_Draws => k_is)
    (case a_Record => k_is)
    (case l_Record => k_is)
    (case c_Record => k_is)
    (case k_Record => k_is)
    (case a_LWrite => k_is)
    (case l_LWrite => k_is)
    (case c_LWrite => k_is)
    (case k_LWrite => k_is)
    (case a_LStep => k_is)
    (case l_LStep => k_is)
    (case c_LStep => k_is)
    (case k_LStep => k_is)
    (case a_LFall => k_is)
    (case l_LFall => k_is)
    (case c_LFall => k_is)
    (case k_LFall => k_is)
    (case a_LRun => k_is)
    (case l_LRun => k_is)
    (case c_LRun => k_is)
    (case k_LRun => k_is)
    (case a_LPoss => k_is)
    (case l_LPoss => k_is)
    (case c_LPoss => k_is)
    (case k_LPoss => k_is)
    (case a_LOpens => k_is)
    (case l_LOpens => k_is)
    (case c_LOpens => k_is)
    (case k_LOpens => k_is)
    (case a_Law => k_is)
    (case l_Law => k_is)
    (case c_Law => k_is)
    (case k_Law => k_is)
    (case lD => k_is)
    (case vD => rfl)
    (case lC => k_is)
    (case vC => rfl)
    (case aB => k_is)
    (case lB => k_is)
    (case vB => rfl)
    (case pg => k_is)
    (case hd => k_is)
    (case po => k_is)
    (case sa => k_is)
    (case mk => k_is)
    (case kc => k_is)
    (case n_boot => k_is)
    (case n_generation => k_is)
    (case n_start => k_is)
    (case n_end => k_is)
    (case n_records => k_is)
    (case z_range => k_is)
    (case z_len => k_is)
    (case z_isinstance => k_is)
    (case z_str => k_is)
    (case z_bool => k_is)
    (case z_int => k_is)
    (case z_tuple => k_is)
    (case z_list => k_is)
    (case z_ord => k_is)
    (case z_abs => k_is)
    (case z_max => k_is)
    (case q_LONGEST => k_is)
    (case q_BITS => k_is)
    (case q_LENGTH => k_is)
    (case q_DEPTH => k_is)
    (case q_MODULUS => k_is)
    (case q_PAYLOAD => k_is)
    (case q_KINDS => k_is)
    (case q_HEAD => k_is)
    (case q_PART => k_is)
    (case q_PIECE => k_is)
    (case q_FIRST => k_is)
    (case q_CHARS => k_is)
    (case e_CHARS => decide +kernel)
#print axioms PySem.Challenge.cw_majordomo_k10_whole_falls_of_a_journal_holds
