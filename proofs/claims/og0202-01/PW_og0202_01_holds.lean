import PyProof.Rows.All
import Wide.All
import OpenK.AllK
import Wide.FinOn
import PySem.Challenge.RW_og0202_01
open PySem PySem.W PySem.Calls PyProof.Rows PyProof.V PySem.Spec
set_option Elab.async false
set_option genInjectivity false
set_option genSizeOf false
set_option linter.unusedSimpArgs false
set_option linter.unusedVariables false
namespace Mine
section
set_option maxRecDepth 100000
set_option maxHeartbeats 8000000
open_top hd for PySem.Challenge.rw_og0202_01
end
noncomputable abbrev prg : Program := PySem.Challenge.rw_og0202_01.row.toRowW.prog
noncomputable abbrev TopM (mean : ExcName → Option Value) (mg mb : Str → Option Value) (h : Heap) : Prop := Top hd.view_39 (looseW hd.view_39 []) mean mg mb h
/-- what stands around a call: no exception in hand, d deep, these frames, u units -/
noncomputable abbrev Ar (d : Nat) (fr : List Env) (gd : Option (List Code)) (u : Nat) : Around := { handled := none, depth := d, frames := some fr, guards := gd, units := u }

/-- what a stop and its row tell, less the places -/
structure Dat where
  num : Int
  kind : Str
  text : Str
  cond : Str
  ign : Int
  hits : Int
  on : Bool
  trb : Str

structure KTok where
  (k0 k1 k2 k3 k4 k5 k6 k7 k8 k9 : Tok)
structure VTok where
  (v0 v1 v2 v4 v5 v6 v9 : Tok)

noncomputable def stopEs (P : Params) (k : KTok) (i : Dat) (pl : Addr) (t : VTok) : List DictEntry :=
  [⟨PyData.keyHash P "number", .str "number" k.k0, .int i.num t.v0⟩, ⟨PyData.keyHash P "kind", .str "kind" k.k1, .str i.kind t.v1⟩, ⟨PyData.keyHash P "text", .str "text" k.k2, .str i.text t.v2⟩,
   ⟨PyData.keyHash P "places", .str "places" k.k3, .ref pl⟩, ⟨PyData.keyHash P "condition", .str "condition" k.k4, .str i.cond t.v4⟩, ⟨PyData.keyHash P "ignore", .str "ignore" k.k5, .int i.ign t.v5⟩,
   ⟨PyData.keyHash P "hits", .str "hits" k.k6, .int i.hits t.v6⟩, ⟨PyData.keyHash P "is_once", .str "is_once" k.k7, .bool false⟩, ⟨PyData.keyHash P "is_on", .str "is_on" k.k8, .bool i.on⟩,
   ⟨PyData.keyHash P "trouble", .str "trouble" k.k9, .str i.trb t.v9⟩]
noncomputable def rowKvs (i : Dat) (pl : Addr) (t : VTok) : List (Str × Value) :=
  [(Str.ofString "number", .int i.num t.v0), (Str.ofString "kind", .str i.kind t.v1), (Str.ofString "text", .str i.text t.v2), (Str.ofString "places", .ref pl), (Str.ofString "condition", .str i.cond t.v4),
   (Str.ofString "ignore", .int i.ign t.v5), (Str.ofString "hits", .int i.hits t.v6), (Str.ofString "is_once", .bool false), (Str.ofString "is_on", .bool i.on), (Str.ofString "trouble", .str i.trb t.v9)]
noncomputable def stopsEs (P : Params) (k0 k1 : Tok) (R : Addr) (last : Int) (t : Tok) : List DictEntry :=
  [⟨PyData.keyHash P "rows", .str "rows" k0, .ref R⟩, ⟨PyData.keyHash P "last", .str "last" k1, .int last t⟩]

theorem hold {G : Prop} (h : ∀ H : Prop, (G → H) → H) : G := h G id
theorem neAll {x : Addr} {l : List (Addr × Obj)} (h : ∀ p ∈ l, @LT.lt Nat _ p.1 x) : ∀ p ∈ l, p.1 ≠ x := fun p m => Nat.ne_of_lt (h p m)
section
variable {n i a b c k N : Nat}
theorem o1 (h : n < k) (e : Nat.ble k N = true) : n ≤ N := Nat.le_trans (Nat.le_of_lt h) (Nat.le_of_ble_eq_true e)
theorem o2 (h : n < k) (e : Nat.ble k N = true) : n < N := Nat.lt_of_lt_of_le h (Nat.le_of_ble_eq_true e)
theorem o3 (h : n ≤ k) (e : Nat.ble k N = true) : n ≤ N := Nat.le_trans h (Nat.le_of_ble_eq_true e)
theorem o4 (h : n ≤ k) (e : Nat.ble (k + 1) N = true) : n < N := Nat.lt_of_le_of_lt h (Nat.le_of_ble_eq_true e)
theorem o5 (h : n < k) (e : Nat.ble (k + a) N = true) : n + a < N := Nat.lt_of_lt_of_le (Nat.add_lt_add_right h a) (Nat.le_of_ble_eq_true e)
theorem o6 (h : n < k) (e : Nat.ble (k + a + b) N = true) : n + a + b < N := o5 (Nat.add_lt_add_right h a) e
theorem o7 (h : n < k) (e : Nat.ble (k + a + b + c) N = true) : n + a + b + c < N := o6 (Nat.add_lt_add_right h a) e
theorem o8 (g : n ≤ i) (h : i < k) (e : Nat.ble k N = true) : n ≤ N := Nat.le_trans g (o1 h e)
theorem o9 (g : n ≤ i) (h : i < k) (e : Nat.ble k N = true) : n < N := Nat.lt_of_le_of_lt g (o2 h e)
theorem rm {A : Around} (a : Nat) (hA : A.depth = n + a) (h : n < k) (e : Nat.ble (k + a) 1000 = true) : A.depth < recursionLimit := by rw [hA]; exact Nat.lt_of_lt_of_le (Nat.add_lt_add_right h a) (Nat.le_of_ble_eq_true e)
theorem sz_of (e : Nat.ble n 16777216 = true) : n ≤ sizeLine := by rw [sizeLine_eq]; exact Nat.le_of_ble_eq_true e
theorem sz0 {α : Type} : ([] : List α).length ≤ sizeLine := sz_of rfl
theorem sz1 {α : Type} {x0 : α} : [x0].length ≤ sizeLine := sz_of rfl
theorem sz2 {α : Type} {x0 x1 : α} : [x0, x1].length ≤ sizeLine := sz_of rfl
theorem sz3 {α : Type} {x0 x1 x2 : α} : [x0, x1, x2].length ≤ sizeLine := sz_of rfl
theorem sz4 {α : Type} {x0 x1 x2 x3 : α} : [x0, x1, x2, x3].length ≤ sizeLine := sz_of rfl
theorem sz5 {α : Type} {x0 x1 x2 x3 x4 : α} : [x0, x1, x2, x3, x4].length ≤ sizeLine := sz_of rfl
theorem sz6 {α : Type} {x0 x1 x2 x3 x4 x5 : α} : [x0, x1, x2, x3, x4, x5].length ≤ sizeLine := sz_of rfl
theorem sz_lt (h : n < k) (e : Nat.ble k 16777216 = true) : n ≤ sizeLine := by rw [sizeLine_eq]; exact o1 h e
theorem sz_le (h : n ≤ k) (e : Nat.ble k 16777216 = true) : n ≤ sizeLine := by rw [sizeLine_eq]; exact o3 h e
end
section
variable {x k N : Int} {n j : Nat}
theorem p1 (h : x < k) (e : decide (k ≤ N) = true) : x < N := Int.lt_of_lt_of_le h (of_decide_eq_true e)
theorem p4 (h : k ≤ x) (e : decide (N ≤ k) = true) : N ≤ x := Int.le_trans (of_decide_eq_true e) h
theorem p5 (h : x ≤ n) (g : n < j) (e : decide ((j : Int) ≤ N) = true) : x < N := Int.lt_of_le_of_lt h (Int.lt_of_lt_of_le (Int.ofNat_lt.mpr g) (of_decide_eq_true e))
theorem p6 (h : x ≤ k) (e : decide (k < N) = true) : x < N := Int.lt_of_le_of_lt h (of_decide_eq_true e)
theorem r1 {b : Nat} (h : x ≤ n) (g : n ≤ b) : x ≤ b := Int.le_trans h (Int.ofNat_le.mpr g)
theorem r3 (h0 : 0 ≤ x) (h : x < n) : x.toNat < n := (Int.toNat_lt h0).mpr h
theorem r5 (h : x < n) (g : n ≤ j) (e : decide ((j : Int) ≤ N) = true) : x < N := Int.lt_of_lt_of_le h (Int.le_trans (Int.ofNat_le.mpr g) (of_decide_eq_true e))
theorem r6 (g : n < j) (e : decide ((j : Int) ≤ N) = true) : (n : Int) < N := Int.lt_of_lt_of_le (Int.ofNat_lt.mpr g) (of_decide_eq_true e)
theorem r13 {a : Int} (h : k ≤ x) (e : decide (N < k + a) = true) : N < x + a := Int.lt_of_lt_of_le (of_decide_eq_true e) (Int.add_le_add_right h a)
theorem r14 {a : Int} (h : x < k) (e : decide (k + a ≤ N) = true) : x + a < N := Int.lt_of_lt_of_le (Int.add_lt_add_right h a) (of_decide_eq_true e)
theorem r15 {a : Int} (h : k ≤ x) (e : decide (N ≤ k + a) = true) : N ≤ x + a := Int.le_trans (of_decide_eq_true e) (Int.add_le_add_right h a)
theorem r18 (h : k ≤ x) (e : decide (N < k) = true) : ¬ x = N := fun z => absurd (z ▸ h) (Int.not_le.mpr (of_decide_eq_true e))
theorem r19 (h : x < k) (e : decide (k ≤ N) = true) : ¬ x = N := fun z => absurd (of_decide_eq_true e) (Int.not_le.mpr (z ▸ h))
theorem r20 (h : k ≤ x) (e : decide (N ≤ k) = true) : ¬ x < N := Int.not_lt.mpr (Int.le_trans (of_decide_eq_true e) h)
theorem r21 (h : x = k) (e : decide (k = N) = false) : ¬ x = N := fun z => absurd (h.symm.trans z) (of_decide_eq_false e)
theorem r22 {i m : Nat} (h : i + (m + 1) = n) : i < n := h ▸ Nat.lt_add_of_pos_right (Nat.succ_pos m)
theorem r23 {i m : Nat} (h : i + (m + 1) = n) : i + 1 + m = n := by rw [← h, Nat.add_assoc, Nat.add_comm 1 m]
theorem big_lo (h : 0 ≤ x) : -2 ^ 1920 < x := Int.lt_of_lt_of_le (by decide +kernel) h
theorem big_hi (h : x < 8) : x < 2 ^ 1920 := Int.lt_trans h (by decide +kernel)
theorem big_ten (h : x < 8) : x < 10 ^ 10 := Int.lt_trans h (by decide +kernel)
theorem p7 : (0 : Int) ≤ n := Int.natCast_nonneg n
end
theorem memL {a : Addr × Obj} {l : List (Addr × Obj)} (h : a ∈ l) : List.Mem a l := h
theorem fill : hd.heap_39 = hd.heap_39 ∧ PySem.Challenge.rw_og0202_01 = PySem.Challenge.rw_og0202_01 := by
  k_fill
  w_top off
  exact ⟨rfl, rfl⟩
section
variable {P : Params} {k : KTok} {i : Dat} {pl R R' : Addr} {t : VTok} {k0 k1 t0 t' : Tok} {last last' : Int} {n : Nat} {hh : Int} {kk : Value}
theorem put_last : (putL "last" hh kk (.int last' t') (stopsEs P k0 k1 R last t0), putN "last" (stopsEs P k0 k1 R last t0) n) = (stopsEs P k0 k1 R last' t', n) := rfl
theorem put_rows : (putL "rows" hh kk (.ref R') (stopsEs P k0 k1 R last t0), putN "rows" (stopsEs P k0 k1 R last t0) n) = (stopsEs P k0 k1 R' last t0, n) := rfl
theorem put_cond {z : Str} : (putL "condition" hh kk (.str z t') (stopEs P k i pl t), putN "condition" (stopEs P k i pl t) n) = (stopEs P k { i with cond := z } pl { t with v4 := t' }, n) := rfl
theorem put_ign {z : Int} : (putL "ignore" hh kk (.int z t') (stopEs P k i pl t), putN "ignore" (stopEs P k i pl t) n) = (stopEs P k { i with ign := z } pl { t with v5 := t' }, n) := rfl
theorem put_hits {z : Int} : (putL "hits" hh kk (.int z t') (stopEs P k i pl t), putN "hits" (stopEs P k i pl t) n) = (stopEs P k { i with hits := z } pl { t with v6 := t' }, n) := rfl
theorem put_on {z : Bool} : (putL "is_on" hh kk (.bool z) (stopEs P k i pl t), putN "is_on" (stopEs P k i pl t) n) = (stopEs P k { i with on := z } pl t, n) := rfl
theorem put_trb {z : Str} : (putL "trouble" hh kk (.str z t') (stopEs P k i pl t), putN "trouble" (stopEs P k i pl t) n) = (stopEs P k { i with trb := z } pl { t with v9 := t' }, n) := rfl
end
section
local macro_rules | `(tactic| k_mem) => `(tactic| k_extra "mem")
local macro_rules | `(tactic| k_room) => `(tactic| k_extra "room")
local macro_rules | `(tactic| k_all) => `(tactic| k_extra "all")
local macro_rules | `(tactic| k_put) => `(tactic| k_extra "put")
local macro_rules | `(tactic| k_ne) => `(tactic| k_extra "ne")
local macro_rules | `(tactic| omega) => `(tactic| k_extra "omega")
local macro_rules | `(tactic| size_fits) => `(tactic| k_extra "size")
local macro_rules | `(tactic| walk_at $s:str) => `(tactic| k_extra $s)
variable {w : World} {A₀ : Around} {base h₀ : Heap} {outer : List Env} {env : Env} {d u : Nat} {gd : Option (List Code)} {L : Addr} {m : Str → Option Value} {news rest : List (Addr × Obj)} {mg mb : Str → Option Value} {mean : ExcName → Option Value} {s : Shared} {E : Value → Shared → Prop} {Q : Value → Shared → Prop}
-- part Gen
theorem words_Gen : True := by
  k_with_none
  k_with "spliced" => (refine args_nil ?_; (try dsimp only [List.cons_append, List.nil_append]))
  k_with "mem" => ((refine memL ?_); with_reducible assumption)
  k_with "all" => (first | with_reducible assumption | exact Mine.neAll (by with_reducible assumption) | fail "mine")
  k_with "put" => (first | exact put_last | exact put_rows | exact put_cond | exact put_ign | exact put_hits | exact put_on | exact put_trb | fail "mine")
  k_with "room" => (first | exact Mine.rm 0 (by exact rfl) (by with_reducible assumption) (by exact rfl) | exact Mine.rm 1 (by exact rfl) (by with_reducible assumption) (by exact rfl) | exact Mine.rm 2 (by exact rfl) (by with_reducible assumption) (by exact rfl) | exact Mine.rm 3 (by exact rfl) (by with_reducible assumption) (by exact rfl) | exact Mine.rm 4 (by exact rfl) (by with_reducible assumption) (by exact rfl) | (simp only [depth_under_make, depth_under_kw, depth_in1, depth_deeper, recursionLimit]; omega))
  k_with "size" => (first | with_reducible assumption | with_reducible exact Mine.sz0 | with_reducible exact Mine.sz1 | with_reducible exact Mine.sz2 | with_reducible exact Mine.sz3 | with_reducible exact Mine.sz4 | with_reducible exact Mine.sz5 | with_reducible exact Mine.sz6 | exact Mine.sz_lt (by with_reducible assumption) (by exact rfl) | exact Mine.sz_le (by with_reducible assumption) (by exact rfl) | fail "mine")
  k_with "lt" => ((rename AllLt _ _ => hlt9); (try dsimp only [AllLt] at hlt9); (try simp only [and_true] at hlt9); (try first | (have hz8 := AllLt.lt (hlt9)) | (have hz8 := AllLt.lt (hlt9).2) | (have hz8 := AllLt.lt (hlt9).2.2) | (have hz8 := AllLt.lt (hlt9).2.2.2) | (have hz8 := AllLt.lt (hlt9).2.2.2.2) | (have hz8 := AllLt.lt (hlt9).2.2.2.2.2) | (have hz8 := AllLt.lt (hlt9).2.2.2.2.2.2) | (have hz8 := AllLt.lt (hlt9).2.2.2.2.2.2.2) | (have hz8 := AllLt.lt (hlt9).2.2.2.2.2.2.2.2) | (have hz8 := AllLt.lt (hlt9).2.2.2.2.2.2.2.2.2) | (have hz8 := AllLt.lt (hlt9).2.2.2.2.2.2.2.2.2.2) | (have hz8 := AllLt.lt (hlt9).2.2.2.2.2.2.2.2.2.2.2) | (have hz8 := AllLt.lt (hlt9).2.2.2.2.2.2.2.2.2.2.2.2)))
  k_with "ltc" => (first | with_reducible assumption | exact And.left (by with_reducible assumption) | exact And.left (And.right (by with_reducible assumption)) | exact And.left (And.right (And.right (by with_reducible assumption))) | exact And.left (And.right (And.right (And.right (by with_reducible assumption)))) | exact And.left (And.right (And.right (And.right (And.right (by with_reducible assumption))))) | exact And.left (And.right (And.right (And.right (And.right (And.right (by with_reducible assumption)))))) | exact And.left (And.right (And.right (And.right (And.right (And.right (And.right (by with_reducible assumption))))))) | exact And.left (And.right (And.right (And.right (And.right (And.right (And.right (And.right (by with_reducible assumption)))))))) | exact And.left (And.right (And.right (And.right (And.right (And.right (And.right (And.right (And.right (by with_reducible assumption))))))))) | exact And.left (And.right (And.right (And.right (And.right (And.right (And.right (And.right (And.right (And.right (by with_reducible assumption)))))))))) | exact And.right (by with_reducible assumption) | exact And.right (And.right (by with_reducible assumption)) | exact And.right (And.right (And.right (by with_reducible assumption))) | exact And.right (And.right (And.right (And.right (by with_reducible assumption)))) | exact And.right (And.right (And.right (And.right (And.right (by with_reducible assumption))))) | exact And.right (And.right (And.right (And.right (And.right (And.right (by with_reducible assumption)))))) | exact And.right (And.right (And.right (And.right (And.right (And.right (And.right (by with_reducible assumption))))))) | exact And.right (And.right (And.right (And.right (And.right (And.right (And.right (And.right (by with_reducible assumption)))))))) | exact And.right (And.right (And.right (And.right (And.right (And.right (And.right (And.right (And.right (by with_reducible assumption))))))))) | fail "mine")
  k_with "ne" => (first | k_extra "ltc" | ((with_reducible refine' Ne.symm ?_); k_extra "ltc") | ((with_reducible refine' Nat.ne_of_gt ?_); k_extra "ltc") | ((with_reducible refine' Nat.ne_of_lt ?_); k_extra "ltc") | ((with_reducible refine' Nat.ne_of_gt (Nat.lt_succ_of_lt ?_)); k_extra "ltc") | fail "mine")
  k_with "omega" => (first | k_extra "ltc" | with_reducible decide | k_extra "ne" | k_extra "bd" | fail "mine")
  k_with "bd" => (first | with_reducible exact Mine.p7 | ((with_reducible refine' Mine.o1 ?oh ?oe); (case oh => with_reducible assumption); (case oe => exact rfl)) | ((with_reducible refine' Mine.o2 ?oh ?oe); (case oh => with_reducible assumption); (case oe => exact rfl)) | ((with_reducible refine' Mine.o3 ?oh ?oe); (case oh => with_reducible assumption); (case oe => exact rfl)) | ((with_reducible refine' Mine.o4 ?oh ?oe); (case oh => with_reducible assumption); (case oe => exact rfl)) | ((with_reducible refine' Mine.o5 ?oh ?oe); (case oh => with_reducible assumption); (case oe => exact rfl)) | ((with_reducible refine' Mine.o6 ?oh ?oe); (case oh => with_reducible assumption); (case oe => exact rfl)) | ((with_reducible refine' Mine.o7 ?oh ?oe); (case oh => with_reducible assumption); (case oe => exact rfl)) | ((with_reducible refine' Mine.p1 ?oh ?oe); (case oh => with_reducible assumption); (case oe => exact rfl)) | ((with_reducible refine' Mine.p4 ?oh ?oe); (case oh => with_reducible assumption); (case oe => exact rfl)) | ((with_reducible refine' Mine.p6 ?oh ?oe); (case oh => with_reducible assumption); (case oe => exact rfl)) | ((with_reducible refine' Mine.r6 ?oh ?oe); (case oh => with_reducible assumption); (case oe => exact rfl)) | ((with_reducible refine' Mine.r13 ?oh ?oe); (case oh => with_reducible assumption); (case oe => exact rfl)) | ((with_reducible refine' Mine.r14 ?oh ?oe); (case oh => with_reducible assumption); (case oe => exact rfl)) | ((with_reducible refine' Mine.r15 ?oh ?oe); (case oh => with_reducible assumption); (case oe => exact rfl)) | ((with_reducible refine' Mine.r18 ?oh ?oe); (case oh => with_reducible assumption); (case oe => exact rfl)) | ((with_reducible refine' Mine.r19 ?oh ?oe); (case oh => with_reducible assumption); (case oe => exact rfl)) | ((with_reducible refine' Mine.r20 ?oh ?oe); (case oh => with_reducible assumption); (case oe => exact rfl)) | ((with_reducible refine' Mine.r21 ?oh ?oe); (case oh => with_reducible assumption); (case oe => exact rfl)) | ((with_reducible refine' Mine.o8 ?og ?oh ?oe); (case og => with_reducible assumption); (case oh => with_reducible assumption); (case oe => exact rfl)) | ((with_reducible refine' Mine.o9 ?og ?oh ?oe); (case og => with_reducible assumption); (case oh => with_reducible assumption); (case oe => exact rfl)) | ((with_reducible refine' Mine.p5 ?og ?oh ?oe); (case og => with_reducible assumption); (case oh => with_reducible assumption); (case oe => exact rfl)) | ((with_reducible refine' Mine.r5 ?og ?oh ?oe); (case og => with_reducible assumption); (case oh => with_reducible assumption); (case oe => exact rfl)) | ((with_reducible refine' Mine.r1 ?og ?oh); (case og => with_reducible assumption); (case oh => with_reducible assumption)) | ((with_reducible refine' Mine.r3 ?og ?oh); (case og => with_reducible assumption); (case oh => with_reducible assumption)) | ((with_reducible refine' Nat.le_trans ?og ?oh); (case og => with_reducible assumption); (case oh => with_reducible assumption)) | ((with_reducible refine' Mine.r22 ?oh); (case oh => with_reducible assumption)) | ((with_reducible refine' Mine.r23 ?oh); (case oh => with_reducible assumption)) | ((with_reducible refine' Mine.big_lo ?oh); (case oh => with_reducible assumption)) | ((with_reducible refine' Mine.big_hi ?oh); (case oh => with_reducible assumption)) | ((with_reducible refine' Mine.big_ten ?oh); (case oh => with_reducible assumption)) | ((with_reducible refine' Int.ne_of_gt ?_); k_extra "ltc") | ((with_reducible refine' Int.le_of_lt ?_); k_extra "ltc") | with_reducible exact Int.le_refl _ | with_reducible exact Nat.le_succ _ | with_reducible exact Nat.zero_add _ | fail "mine")
  trivial
theorem AllLt.lt {d : Addr} : ∀ {l : List (Addr × Obj)}, AllLt d l → ∀ p ∈ l, p.1 < d
  | [], _, _, h => nomatch h
  | _ :: _, x, p, h => by
    rcases List.mem_cons.mp h with rfl | h
    · exact x.1
    · exact AllLt.lt x.2 p h
theorem AllLt.ne {d : Addr} : ∀ {l : List (Addr × Obj)}, AllLt d l → ∀ p ∈ l, p.1 ≠ d
  | [], _, _, h => nomatch h
  | _ :: _, x, p, h => by
    rcases List.mem_cons.mp h with rfl | h
    · exact Nat.ne_of_lt x.1
    · exact AllLt.ne x.2 p h
noncomputable def srt (ns : List Int) : List Int := ns.mergeSort (fun a b => decide (a ≤ b))
theorem srt_perm (ns : List Int) : (srt ns).Perm ns := List.mergeSort_perm _ _
theorem srt_sorted (ns : List Int) : (srt ns).Pairwise (· ≤ ·) := by
  have h := List.pairwise_mergeSort (le := fun (a b : Int) => decide (a ≤ b)) (fun a b c h1 h2 => decide_eq_true (Int.le_trans (of_decide_eq_true h1) (of_decide_eq_true h2))) (fun a b => by rw [Bool.or_eq_true, decide_eq_true_eq, decide_eq_true_eq]; exact Int.le_total a b) ns
  exact h.imp (by intro a b h; simpa using h)
theorem srt_uniq {a ns : List Int} (p : a.Perm ns) (o : a.Pairwise (· ≤ ·)) : a = srt ns := lks_uniq (p.trans (srt_perm ns).symm) o (srt_sorted ns)
theorem srt_length (ns : List Int) : (srt ns).length = ns.length := (srt_perm ns).length_eq
theorem mem_srt {ns : List Int} {x : Int} : x ∈ srt ns ↔ x ∈ ns := (srt_perm ns).mem_iff

section
variable {prog : Program} {A : Around} {l : Addr} {vs : List Value} {ns : List Int} {c : Nat}
theorem led_list {h : Heap} (N : News h₀ L h news) (hm : (l, listOf vs.toArray c) ∈ news) : h.IsList l vs.toArray := ⟨_, (N _ hm).1, rfl, c, rfl⟩
theorem sorted_led (F : Fr h₀ L s.heap m) (N : News h₀ L s.heap news) (hm : (l, listOf vs.toArray c) ∈ news) (hi : IntsAre vs ns) (h64 : ns.length < 64)
    (h : ∀ D vs' c' h', Fr h₀ L h' m → News h₀ L h' ((D, listOf vs'.toArray c') :: news) → (∀ q ∈ news, q.1 < D) → IntsAre vs' (srt ns) → Q (.ref D) { s with heap := h' }) :
    wpAny (model prog w) A (call (.builtin "sorted") [.ref l]) Q E s :=
  kso_sorted F N (led_list N hm) hi h64 fun D vs' _ c' h' F' N' l1 i' _ p o _ => h D vs' c' h' F' N' l1 (srt_uniq p o ▸ i')
end

/-- a turn's end -/
def TurnG (h₀ : Heap) (L : Addr) (J : (Str → Option Value) → List (Addr × Obj) → Prop) (I : Addr) (oI : Obj) (s₁ : Shared) (Q : Flow → Shared → Prop) (f : Flow) (s₂ : Shared) : Prop :=
  match f with
  | .ret v => Q (.ret v) s₂
  | .brk => Q .next s₂
  | _ => ∃ h' tk m' nx, s₂ = { s₁ with heap := h', toks := tk } ∧ Fr h₀ L h' m' ∧ News h₀ L h' ((I, oI) :: nx) ∧ (∀ p ∈ nx, p.1 ≠ I) ∧ J m' nx

section
variable {prog : Program} {A : Around} {x : Str} {body : List Stmt} {Q : Flow → Shared → Prop}
theorem iter_led {l : Addr} {its : Array Value} {k : Nat} (J : Nat → (Str → Option Value) → List (Addr × Obj) → Prop)
    (hh : A.handled = none) (hl : (l, listOf its k) ∈ news) (F : Fr h₀ env.locals s.heap m) (N : News h₀ env.locals s.heap news) (hj : J 0 m news)
    (hJl : ∀ i m₁ nx, J i m₁ nx → (l, listOf its k) ∈ nx)
    (turn : ∀ i v m₁ nx h tk I oI, its[i]? = some v → J i m₁ nx → (∀ p ∈ nx, p.1 ≠ I) → Fr h₀ env.locals h (fun y => if y = x then some v else m₁ y) → News h₀ env.locals h ((I, oI) :: nx) →
      wpAny (model prog w) A (execs body env) (TurnG h₀ env.locals (J (i + 1)) I oI { s with heap := h, toks := tk } Q) E { s with heap := h, toks := tk })
    (done : ∀ m₁ nx h tk, J its.size m₁ nx → Fr h₀ env.locals h m₁ → News h₀ env.locals h nx → Q .next { s with heap := h, toks := tk }) :
    wpAny (model prog w) A (pyIter (.ref l)) (fun it s₂ => LoopAtV prog w A h₀ env x body Q E it s₂) E s := by
  have hol : s.heap.get? l = some (listOf its k) := (N _ hl).1
  have hls : s.heap.IsList l its := ⟨_, hol, rfl, k, rfl⟩
  have hne : l ≠ s.heap.objs.size := Nat.ne_of_lt (Heap.lt_size hol)
  refine wpAny_pyIter_list hls ?_
  have W := Walks.list (prog := prog) (w := w) hh s.heap.objs.size l hne its
  refine ⟨_, _, _, its.size, _, _, m, news, J, rfl, W, ?_, ?_, ?_, ⟨⟨_, Heap.get?_push_size _ rfl, rfl, rfl⟩, hls.at fun o e => Heap.get?_push_of_some _ e⟩, F.push _, (fun p hp => ⟨Heap.get?_push_of_some _ (N p hp).1, (N p hp).2⟩), hj, ?_, ?_⟩
  · intro hm
    rcases List.mem_cons.mp hm with e | hm
    · exact absurd F.ns.lt (e ▸ Nat.lt_irrefl _)
    · exact (N _ hl).2.1 ((List.mem_singleton.mp hm).symm)
  · intro b hb
    rw [List.mem_singleton.mp hb]
    exact next_is_new F
  · intro p hp hI
    exact absurd (Heap.lt_size (N p hp).1) ((List.mem_singleton.mp hI) ▸ Nat.lt_irrefl _)
  · rintro i v m₁ nx s₁ own ⟨hh', tk', rfl⟩ hin hP hJ hoff hown hget hfp hst F₁ N₁
    have hI0 : h₀.get? s.heap.objs.size = none := next_is_new F
    obtain ⟨⟨oI, hoI, _⟩, _⟩ := id hst
    have hIown : (s.heap.objs.size, oI) ∈ own := hfp _ (List.mem_cons.mpr (.inl rfl)) hI0 _ hoI
    have hlx := hJl _ _ _ hJ
    have hoff' : ∀ p ∈ nx, p.1 ≠ s.heap.objs.size := fun p hp e => hoff p hp (List.mem_singleton.mpr e)
    have N₂ : News h₀ env.locals hh' ((s.heap.objs.size, oI) :: nx) := fun p hp => by
      rcases List.mem_cons.mp hp with rfl | hp
      · exact N₁ _ (List.mem_append_left _ hIown)
      · exact N₁ _ (List.mem_append_right _ hp)
    have hlo : hh'.get? l = some (listOf its k) := (N₁ _ (List.mem_append_right _ hlx)).1
    have ownAre : ∀ p ∈ own, p = (s.heap.objs.size, oI) ∨ p = (l, listOf its k) := fun p hp => by
      have h2 : hh'.get? p.1 = some p.2 := hget p hp
      rcases List.mem_cons.mp (hown p hp) with e | e
      · refine .inl (Prod.ext e ?_)
        rw [e, hoI] at h2
        exact (Option.some.inj h2).symm
      · have e := List.mem_singleton.mp e
        refine .inr (Prod.ext e ?_)
        rw [e, hlo] at h2
        exact (Option.some.inj h2).symm
    refine wpAny_mono (turn i v m₁ nx hh' tk' _ oI hP hJ hoff' F₁ N₂) (fun f s₂ p => ?_) fun _ _ e => e
    have fin : (∃ h' tk m' nx', s₂ = { ({ s with heap := hh', toks := tk' } : Shared) with heap := h', toks := tk } ∧ Fr h₀ env.locals h' m' ∧ News h₀ env.locals h' ((s.heap.objs.size, oI) :: nx') ∧ (∀ p ∈ nx', p.1 ≠ s.heap.objs.size) ∧ J (i + 1) m' nx') →
        LoopStepU h₀ env.locals [s.heap.objs.size] own (J (i + 1)) { s with heap := hh', toks := tk' } .next s₂ := by
      rintro ⟨h', tk, m', nx', e, F', N', ho, hj'⟩
      refine ⟨rfl, h', tk, m', nx', e, F', fun p hp => ?_, fun p hp q => ho p hp (List.mem_singleton.mp q), hj'⟩
      rcases List.mem_append.mp hp with hp | hp
      · rcases ownAre p hp with rfl | rfl
        · exact N' _ List.mem_cons_self
        · exact N' _ (List.mem_cons_of_mem _ (hJl _ _ _ hj'))
      · exact N' _ (List.mem_cons_of_mem _ hp)
    cases f with
    | ret v => exact .ret p
    | brk => exact .brk p
    | next => exact .next (fin p)
    | cont => exact .cont (fin p)
  · rintro h' tk m' nx F' N' _ hJ
    exact done m' nx h' tk hJ F' N'

theorem iter_rng {r : Addr} {b₀ : Int} {t₀ u₀ v₀ : Tok} {n : Nat} (J : Nat → (Str → Option Value) → List (Addr × Obj) → Prop)
    (hh : A.handled = none) (hr : IsRange s.heap r 0 b₀ 1 t₀ u₀ v₀) (hsmall : Builtin.Range.small 0 b₀ 1 = true) (hn : Builtin.Range.rangeSize 0 b₀ 1 = (n : Int)) (F : Fr h₀ env.locals s.heap m) (N : News h₀ env.locals s.heap news) (hj : J 0 m news)
    (turn : ∀ i t m₁ nx h tk I oI, i < n → J i m₁ nx → (∀ p ∈ nx, p.1 ≠ I) → Fr h₀ env.locals h (fun y => if y = x then some (.int (i : Nat) t) else m₁ y) → News h₀ env.locals h ((I, oI) :: nx) →
      wpAny (model prog w) A (execs body env) (TurnG h₀ env.locals (J (i + 1)) I oI { s with heap := h, toks := tk } Q) E { s with heap := h, toks := tk })
    (done : ∀ m₁ nx h tk, J n m₁ nx → Fr h₀ env.locals h m₁ → News h₀ env.locals h nx → Q .next { s with heap := h, toks := tk }) :
    wpAny (model prog w) A (pyIter (.ref r)) (fun it s₂ => LoopAtV prog w A h₀ env x body Q E it s₂) E s := by
  refine wpAny_pyIter_range hr hsmall ?_
  have W : Walks prog w A s.heap.objs.size [s.heap.objs.size] [s.heap.objs.size] n (fun i v => i < n ∧ ∃ t, v = .int (0 + i * 1) t)
      (fun i h => IsRangeIter h s.heap.objs.size (0 + (i : Nat) * 1) ((n : Int) - (i : Nat)) 1) := (Walks.range hh _ 0 1 n).bound
  have hnew := next_is_new F
  refine ⟨_, _, _, n, _, _, m, news, J, rfl, W, ?_, ?_, ?_, (by show IsRangeIter _ _ _ _ _; rw [hn]; simpa using Heap.get?_push_size _ rfl), F.push _, (fun p hp => ⟨Heap.get?_push_of_some _ (N p hp).1, (N p hp).2⟩), hj, ?_, ?_⟩
  · intro hm
    exact absurd F.ns.lt ((List.mem_singleton.mp hm) ▸ Nat.lt_irrefl _)
  · intro b hb
    rw [List.mem_singleton.mp hb]
    exact hnew
  · intro p hp hI
    exact absurd (Heap.lt_size (N p hp).1) ((List.mem_singleton.mp hI) ▸ Nat.lt_irrefl _)
  · rintro i v m₁ nx s₁ own ⟨hh', tk', rfl⟩ hin ⟨_, t, rfl⟩ hJ hoff hown hget hall hst F₁ N₁
    obtain ⟨oI, hst', hmem⟩ : ∃ oI, hh'.get? s.heap.objs.size = some oI ∧ (s.heap.objs.size, oI) ∈ own := ⟨_, hst, hall s.heap.objs.size (List.mem_singleton.mpr rfl) hnew _ hst⟩
    have e1 : (0 : Int) + (i : Int) * 1 = (i : Int) := by rw [Int.zero_add, Int.mul_one]
    rw [e1] at F₁
    have hoff' : ∀ p ∈ nx, p.1 ≠ s.heap.objs.size := fun p hp e => hoff p hp (List.mem_singleton.mpr e)
    have N₂ : News h₀ env.locals hh' ((s.heap.objs.size, oI) :: nx) := fun p hp => by
      rcases List.mem_cons.mp hp with rfl | hp
      · exact N₁ _ (List.mem_append_left _ hmem)
      · exact N₁ _ (List.mem_append_right _ hp)
    refine wpAny_mono (turn i t m₁ nx hh' tk' _ oI hin hJ hoff' F₁ N₂) (fun f s₂ p => ?_) fun _ _ e => e
    have fin : (∃ h' tk m' nx', s₂ = { ({ s with heap := hh', toks := tk' } : Shared) with heap := h', toks := tk } ∧ Fr h₀ env.locals h' m' ∧ News h₀ env.locals h' ((s.heap.objs.size, oI) :: nx') ∧ (∀ p ∈ nx', p.1 ≠ s.heap.objs.size) ∧ J (i + 1) m' nx') →
        LoopStepU h₀ env.locals [s.heap.objs.size] own (J (i + 1)) { s with heap := hh', toks := tk' } .next s₂ := by
      rintro ⟨h', tk, m', nx', e, F', N', ho, hj'⟩
      refine ⟨rfl, h', tk, m', nx', e, F', fun p hp => ?_, fun p hp q => ho p hp (List.mem_singleton.mp q), hj'⟩
      rcases List.mem_append.mp hp with hp | hp
      · have h1 : p.1 = s.heap.objs.size := List.mem_singleton.mp (hown p hp)
        have h2 : hh'.get? p.1 = some p.2 := hget p hp
        rw [h1, hst'] at h2
        have h3 : p = (s.heap.objs.size, oI) := Prod.ext h1 (Option.some.inj h2).symm
        rw [h3]
        exact N' _ List.mem_cons_self
      · exact N' _ (List.mem_cons_of_mem _ hp)
    cases f with
    | ret v => exact .ret p
    | brk => exact .brk p
    | next => exact .next (fin p)
    | cont => exact .cont (fin p)
  · rintro h' tk m' nx F' N' _ hJ
    exact done m' nx h' tk hJ F' N'
end

structure Itm where
  (sx sd sp rx rp : Addr)
  dat : Dat
  cells : List Int
structure ItmIn (w : World) (news : List (Addr × Obj)) (i : Itm) : Prop where
  a : (i.sx, instObj 82 i.sd) ∈ news
  b : ∃ kt vt n, (i.sd, dictOf (stopEs w.params kt i.dat i.sp vt) n) ∈ news
  c : ∃ vs k, (i.sp, listOf vs.toArray k) ∈ news ∧ IntsAre vs i.cells
  d : ∃ o vt, (i.rx, o) ∈ news ∧ o.IsDictOf (strKind prg w) (rowKvs i.dat i.rp vt) ∧ (i.rx == sysModules) = false
  e : ∃ vs k, (i.rp, listOf vs.toArray k) ∈ news ∧ IntsAre vs i.cells
theorem ItmIn.sub {i : Itm} (x : ItmIn w news i) {news' : List (Addr × Obj)} (hs : ∀ p ∈ news, p ∈ news') : ItmIn w news' i :=
  ⟨hs _ x.a, let ⟨k, v, n, h⟩ := x.b; ⟨k, v, n, hs _ h⟩, let ⟨k, v, h, r⟩ := x.c; ⟨k, v, hs _ h, r⟩, let ⟨k, v, h, r⟩ := x.d; ⟨k, v, hs _ h, r⟩, let ⟨k, v, h, r⟩ := x.e; ⟨k, v, hs _ h, r⟩⟩
noncomputable def sxs (items : List Itm) : Array Value := (items.map fun i => Value.ref i.sx).toArray
noncomputable def rxs (items : List Itm) : Array Value := (items.map fun i => Value.ref i.rx).toArray
theorem sxs_at {items : List Itm} {i : Nat} {v : Value} (h : (sxs items)[i]? = some v) : ∃ it, items[i]? = some it ∧ v = .ref it.sx := by
  simp only [sxs, List.getElem?_toArray, List.getElem?_map, Option.map_eq_some_iff] at h
  obtain ⟨it, h, e⟩ := h
  exact ⟨it, h, e.symm⟩
theorem rxs_at {items : List Itm} {i : Nat} {v : Value} (h : (rxs items)[i]? = some v) : ∃ it, items[i]? = some it ∧ v = .ref it.rx := by
  simp only [rxs, List.getElem?_toArray, List.getElem?_map, Option.map_eq_some_iff] at h
  obtain ⟨it, h, e⟩ := h
  exact ⟨it, h, e.symm⟩
theorem sxs_size (items : List Itm) : (sxs items).size = items.length := by simp [sxs]
theorem rxs_size (items : List Itm) : (rxs items).size = items.length := by simp [rxs]

theorem map_self (m₀ : Str → Option Value) (x : Str) : ∃ u, m₀ = fun y => if y = x then u else m₀ y :=
  ⟨m₀ x, by funext y; by_cases h : y = x <;> simp [h]⟩
theorem map_twice (m₀ : Str → Option Value) (x : Str) (u v : Option Value) : (fun y => if y = x then v else (fun y => if y = x then u else m₀ y) y) = fun y => if y = x then v else m₀ y := by
  funext y; by_cases h : y = x <;> simp [h]

theorem take_succ_mem {α : Type} {l : List α} {i : Nat} {a x : α} (h : l[i]? = some a) (hx : x ∈ l.take (i + 1)) : x ∈ l.take i ∨ x = a := by
  rw [List.take_add_one, h] at hx
  simpa using hx
theorem find_first {α : Type} {p : α → Bool} : ∀ {l : List α} {i : Nat} {a : α}, l[i]? = some a → (∀ j ∈ l.take i, p j = false) → p a = true → l.find? p = some a
  | [], _, _, h, _, _ => by simp at h
  | b :: r, 0, a, h, _, ha => by
    simp at h; subst h
    simp [ha]
  | b :: r, i + 1, a, h, hno, ha => by
    have hb : p b = false := hno b (by simp)
    rw [List.find?_cons, hb]
    exact find_first (l := r) (i := i) (by simpa using h) (fun j hj => hno j (by simp [hj])) ha
theorem sub_cons {a : Addr × Obj} {t l : List (Addr × Obj)} (h : a ∈ l) (k : ∀ p ∈ t, p ∈ l) : ∀ p ∈ a :: t, p ∈ l := List.forall_mem_cons.mpr ⟨h, k⟩
theorem sub_id {t : List (Addr × Obj)} : ∀ p ∈ t, p ∈ t := fun _ h => h
theorem sub_tail {a : Addr × Obj} {t l : List (Addr × Obj)} (k : ∀ p ∈ t, p ∈ l) : ∀ p ∈ t, p ∈ a :: l := fun p h => List.mem_cons_of_mem _ (k p h)
theorem newsSub {h : Heap} {l l' : List (Addr × Obj)} (N : News h₀ L h l) (hs : ∀ p ∈ l', p ∈ l) : News h₀ L h l' := fun p hp => N p (hs p hp)
theorem newsTail {h : Heap} {p : Addr × Obj} {l : List (Addr × Obj)} (N : News h₀ L h (p :: l)) : News h₀ L h l := fun q hq => N q (List.mem_cons_of_mem _ hq)
section
open LCg LCt
variable {prog : Program} {A : Around} {x : Str} {ct elt : Expr} {scope : Scope} {cl : List (Str × Addr)} {S : List (Addr × Obj) → Prop} {P : Nat → Value → Prop} {Fin : List Value → List (Addr × Obj) → Prop} {n : Nat}
theorem compEnd_mono {s₁ s₂ : Shared} {I C D : Addr} {oI oC oD : Obj} {rest rest' : Value → List (Addr × Obj) → Prop} {y : Value} (x : CompEnd h₀ L m s₁ I oI C oC D oD S rest y s₂) (h : ∀ nx, S nx → rest y nx → rest' y nx) : CompEnd h₀ L m s₁ I oI C oC D oD S rest' y s₂ := by
  obtain ⟨h', tk, nx, e, F, N, o, hS, r⟩ := x
  exact ⟨h', tk, nx, e, F, N, o, hS, h nx hS r⟩
theorem compT_all (ys : Nat → List Value) (h0 : ys 0 = [])
    (turn : ∀ i v I oI C oC D m₂ h tk (E' : Value → Shared → Prop), i < n → P i v → NsObj oC m₂ → m₂ x = some v → Fr h₀ L h m → News h₀ L h ((I, oI) :: (C, oC) :: (D, lst (ys i)) :: news) → Off3 I C D news → ((@Ne Nat I C) ∧ (@Ne Nat I D) ∧ (@Ne Nat C D)) →
      wpAny (model prog w) A (isTrue ct (compEnvC scope cl C env) (eval ct (compEnvC scope cl C env))) (fun ok s' => if ok = true then
        wpAny (model prog w) A (eval elt (compEnvC scope cl C env)) (CompEnd h₀ L m { s with heap := h, toks := tk } I oI C oC D (lst (ys i)) S (fun y news' => news' = news ∧ ys (i + 1) = ys i ++ [y])) E' s'
        else CompEnd h₀ L m { s with heap := h, toks := tk } I oI C oC D (lst (ys i)) S (fun _ news' => news' = news ∧ ys (i + 1) = ys i) Value.none s') E' { s with heap := h, toks := tk })
    (fin : Fin (ys n) news) : CompRestT prog w A h₀ L m env ct elt x scope cl s S P Fin n 0 [] news := by
  have key : ∀ k i, i + k = n → CompRestT prog w A h₀ L m env ct elt x scope cl s S P Fin k i (ys i) news := by
    intro k
    induction k with
    | zero => intro i e; obtain rfl : i = n := e
              exact .zero fin
    | succ k ih =>
      intro i e
      refine .succ ?_
      intro v I oI C oC D m₂ h tk E' hP hC hx F N off ne
      refine wpAny_mono (turn i v I oI C oC D m₂ h tk E' (by omega) hP hC hx F N off ne) (fun ok s' hq => ?_) fun _ _ e => e
      cases ok with
      | true =>
        simp only [if_true] at hq ⊢
        refine wpAny_mono hq (fun y s₂ hy => compEnd_mono hy fun nx _ r => ?_) fun _ _ e => e
        obtain ⟨rfl, e2⟩ := r
        rw [← e2]
        exact ih (i + 1) (by omega)
      | false =>
        simp only [Bool.false_eq_true, if_false] at hq ⊢
        refine compEnd_mono hq fun nx _ r => ?_
        obtain ⟨rfl, e2⟩ := r
        rw [← e2]
        exact ih (i + 1) (by omega)
  have := key n 0 (by omega)
  rw [h0] at this
  exact this
end
section
variable {prog : Program} {A : Around} {l : Addr} {its : Array Value} {c : Nat}
theorem len_led (N : News h₀ L s.heap news) (hm : (l, listOf its c) ∈ news) (hb : its.size < 1000000) (h : Q (.int its.size (s.toks + 1)) { s with toks := s.toks + 1 + 1 }) :
    wpAny (model prog w) A (call (.builtin "len") [.ref l]) Q E s := call_len_list ⟨_, (N _ hm).1, rfl, c, rfl⟩ (by omega) h
end
theorem off1_mem {D : Addr} : ∀ {l : List (Addr × Obj)}, LCg.Off1 D l → ∀ p ∈ l, p.1 ≠ D
  | [], _, _, h => nomatch h
  | _ :: _, x, p, h => by
    rcases List.mem_cons.mp h with rfl | h
    · exact x.1
    · exact off1_mem x.2 p h
section
variable {prog : Program} {A : Around} {l : Addr} {vs : List Value} {ns : List Int} {c : Nat} {z : Int} {tz : Tok}
theorem any_beq (ns : List Int) (z : Int) : (ns.any (· == z)) = decide (z ∈ ns) := by
  rw [Bool.eq_iff_iff]; simp
theorem in_led (N : News h₀ L s.heap news) (hm : (l, listOf vs.toArray c) ∈ news) (hi : IntsAre vs ns) (h : Q (.bool (decide (z ∈ ns))) s) : wpAny (model prog w) A (compareOp .In (.int z tz) (.ref l)) Q E s :=
  in_list_ints (led_list N hm) hi (by rw [any_beq]; exact h)
theorem notin_led (N : News h₀ L s.heap news) (hm : (l, listOf vs.toArray c) ∈ news) (hi : IntsAre vs ns) (h : Q (.bool (!decide (z ∈ ns))) s) : wpAny (model prog w) A (compareOp .NotIn (.int z tz) (.ref l)) Q E s :=
  notin_list_ints (led_list N hm) hi (by rw [any_beq]; exact h)
end
/-- the keys that a dict of places has, in the order of their first store -/
noncomputable def addKey (ks : List Int) (k : Int) : List Int := if k ∈ ks then ks else ks ++ [k]
noncomputable abbrev kTrue (ks : List Int) : List (Int × Value) := ks.map fun k => (k, Value.bool true)
theorem stored_kTrue (ks : List Int) (k : Int) : stored (kTrue ks) k (Value.bool true) = kTrue (addKey ks k) := by
  unfold stored addKey kTrue
  by_cases h : k ∈ ks
  · rw [if_pos h, if_pos (by simpa using h)]
    rw [List.map_map]
    apply List.map_congr_left
    intro a _
    simp only [Function.comp]
    split <;> rfl
  · rw [if_neg h, if_neg (by simpa using h)]
    simp
theorem addKey_length (ks : List Int) (k : Int) : (addKey ks k).length ≤ ks.length + 1 := by
  unfold addKey; split <;> simp
theorem foldl_addKey_length : ∀ (l ks : List Int), (l.foldl addKey ks).length ≤ ks.length + l.length
  | [], ks => by simp
  | k :: r, ks => by
    have h1 := foldl_addKey_length r (addKey ks k)
    have h2 := addKey_length ks k
    exact Nat.le_trans h1 (Nat.le_trans (Nat.add_le_add_right h2 _) (Nat.le_of_eq (by rw [Nat.add_assoc, Nat.add_comm 1]; rfl)))
section
variable {prog : Program} {A : Around} {G : Addr} {o : Obj} {keys : List Int}
theorem flat_kTrue : ∀ ks : List Int, FlatPairs PyData.int (kTrue ks) (ks.map fun k => (PyData.int k, PyData.bool true))
  | [] => .nil
  | _ :: r => .cons (Flat.bool _) (flat_kTrue r)
theorem flat_ints : ∀ (vs : List Value) (ks : List Int), vs.length = ks.length → (∀ (j : Nat) (v : Value), vs[j]? = some v → ∃ k, ks[j]? = some k ∧ Flat v (.int k)) → IntsAre vs ks
  | [], [], _, _ => .nil
  | [], _ :: _, h, _ => by simp at h
  | _ :: _, [], h, _ => by simp at h
  | v :: r, k :: q, h, hv => by
    obtain ⟨k', e, hf⟩ := hv 0 v rfl
    simp at e; subst e
    obtain ⟨t, rfl⟩ := Flat.int_inv hf
    exact .cons _ _ (flat_ints r q (by simpa using h) fun j u hu => by simpa using hv (j + 1) u (by simpa using hu))
theorem kdl_all : ∀ {D : List (PyData × PyData)} {C : List Value → Prop}, (∀ vs : List Value, vs.length = D.length → (∀ (j : Nat) (v : Value), vs[j]? = some v → ∃ q : PyData × PyData, D[j]? = some q ∧ Flat v q.1) → C vs) → KdlKeysD D C
  | [], _, h => h [] rfl (by simp)
  | q :: r, C, h => fun v hv => kdl_all (D := r) fun vs hl hvs => h (v :: vs) (by simpa using hl) fun j u hu => by
    cases j with
    | zero => simp at hu; subst hu; exact ⟨q, rfl, hv⟩
    | succ j => simpa using hvs j u (by simpa using hu)
theorem sorted_dict (hh : A.handled = none) (F : Fr h₀ L s.heap m) (N : News h₀ L s.heap news) (hm : (G, o) ∈ news) (hd : o.IsDictOf (intKind prog w) (kTrue keys)) (lo : (G == sysModules) = false) (h64 : keys.length < 64)
    (h : ∀ D vs' c' h' tk, Fr h₀ L h' m → News h₀ L h' ((D, listOf vs'.toArray c') :: news) → (∀ q ∈ news, q.1 < D) → IntsAre vs' (srt keys) → Q (.ref D) { s with heap := h', toks := tk }) :
    wpAny (model prog w) A (call (.builtin "sorted") [.ref G]) Q E s := by
  refine kdu_sortedD (knd := PySem.intKind _ _) (enc := PyData.int) (fun _ _ => kdl_flat_int) hh F N (TabAt.ofNews N hm lo hd (flat_kTrue keys)) (by simp; omega) fun B h' tk => kdl_all fun vs hl hv F' N' l1 => ?_
  have hi : IntsAre vs keys := flat_ints vs keys (by simpa using hl) fun j v e => by
    obtain ⟨q, hq, hf⟩ := hv j v e
    simp only [List.getElem?_map, Option.map_eq_some_iff] at hq
    obtain ⟨k, hk, rfl⟩ := hq
    exact ⟨k, hk, hf⟩
  refine ksk_lsort (news' := fun o => (B, o) :: news) F' N' (fun o => .head (fun p hp => Nat.ne_of_lt (l1 p hp))) (ksk_tl vs) hi h64 fun vs' ns' c h'' F'' N'' i' _ p ho _ => ?_
  exact h B vs' c h'' tk F'' N'' l1 (srt_uniq p ho ▸ i')
end
theorem map_self2 (m₀ : Str → Option Value) (x z : Str) : ∃ u v, m₀ = fun y => if y = x then u else if y = z then v else m₀ y :=
  ⟨m₀ x, m₀ z, by
    funext y
    by_cases h : y = x
    · subst h; rw [if_pos rfl]
    · rw [if_neg h]
      by_cases h2 : y = z
      · subst h2; rw [if_pos rfl]
      · rw [if_neg h2]⟩
theorem map_again (f : Str → Option Value) (x : Str) (u v : Option Value) : (fun y => if y = x then v else (fun y => if y = x then u else f y) y) = fun y => if y = x then v else f y := by
  funext y; by_cases h : y = x <;> simp [h]

noncomputable def keysOf (items : List Itm) : List Int := items.foldl (fun ks it => if it.dat.on then it.cells.foldl addKey ks else ks) []
theorem keysOf_succ_on {items : List Itm} {i : Nat} {it : Itm} (h : items[i]? = some it) (q : it.dat.on = true) : keysOf (items.take (i + 1)) = it.cells.foldl addKey (keysOf (items.take i)) := by
  unfold keysOf; rw [List.take_add_one, h]; simp [q]
theorem keysOf_succ_off {items : List Itm} {i : Nat} {it : Itm} (h : items[i]? = some it) (q : it.dat.on = false) : keysOf (items.take (i + 1)) = keysOf (items.take i) := by
  unfold keysOf; rw [List.take_add_one, h]; simp [q]
theorem keysFrom_length : ∀ (items : List Itm) (ks : List Int), (∀ i ∈ items, i.cells.length ≤ 3) → (items.foldl (fun ks it => if it.dat.on then it.cells.foldl addKey ks else ks) ks).length ≤ ks.length + 3 * items.length
  | [], ks, _ => by simp
  | i :: r, ks, h => by
    have h1 := keysFrom_length r (if i.dat.on then i.cells.foldl addKey ks else ks) fun j hj => h j (List.mem_cons_of_mem _ hj)
    have h2 := h i List.mem_cons_self
    have h3 := foldl_addKey_length i.cells ks
    simp only [List.foldl_cons, List.length_cons]
    split at h1 <;> rename_i q <;> simp only [q, if_true, Bool.false_eq_true, if_false] <;> omega
theorem keysOf_length {items : List Itm} (h : ∀ i ∈ items, i.cells.length ≤ 3) : (keysOf items).length ≤ 3 * items.length := by
  have := keysFrom_length items [] h
  simpa [keysOf] using this
theorem keysOf_take {items : List Itm} (h : ∀ i ∈ items, i.cells.length ≤ 3) (i : Nat) : (keysOf (items.take i)).length ≤ 3 * items.length :=
  Nat.le_trans (keysOf_length fun j hj => h j (List.mem_of_mem_take hj)) (Nat.mul_le_mul_left 3 (List.length_take_le' i items))
theorem cells_take {ks l : List Int} {n q : Nat} (h : ks.length ≤ n) (hc : l.length ≤ 3) : ((l.take q).foldl addKey ks).length ≤ n + 3 :=
  Nat.le_trans (foldl_addKey_length _ _) (Nat.add_le_add h (Nat.le_trans (List.length_take_le' _ _) hc))
theorem kTrue_fits {ks : List Int} (h : ks.length ≤ 100000) : (kTrue ks).length ≤ sizeLine := by
  rw [sizeLine_eq, List.length_map]; omega
theorem ints_at {vs : List Value} {ns : List Int} {i : Nat} {v : Value} (hi : IntsAre vs ns) (h : (vs.toArray)[i]? = some v) : ∃ a t, v = .int a t ∧ ns[i]? = some a := by
  obtain ⟨k, t, e, hk⟩ := IntsAre.at hi i v (by simpa using h)
  exact ⟨k, t, e, hk⟩

theorem map_flip (f : Str → Option Value) (x z : Str) (a b : Option Value) (hxz : x ≠ z) {c : Option Value} : (fun y => if y = z then a else (fun y => if y = x then b else if y = z then c else f y) y) = fun y => if y = x then b else if y = z then a else f y := by
  funext y
  by_cases h : y = z
  · subst h; simp [Ne.symm hxz]
  · simp [h]
section
variable {i : Dat} {pl : Addr} {t : VTok} {t' : Tok}
theorem stored_cond {z : Str} : stored (rowKvs i pl t) (Str.ofString "condition") (.str z t') = rowKvs { i with cond := z } pl { t with v4 := t' } := rfl
theorem stored_ign {z : Int} : stored (rowKvs i pl t) (Str.ofString "ignore") (.int z t') = rowKvs { i with ign := z } pl { t with v5 := t' } := rfl
theorem stored_hits {z : Int} : stored (rowKvs i pl t) (Str.ofString "hits") (.int z t') = rowKvs { i with hits := z } pl { t with v6 := t' } := rfl
theorem stored_on {z : Bool} : stored (rowKvs i pl t) (Str.ofString "is_on") (.bool z) = rowKvs { i with on := z } pl t := rfl
theorem stored_trb {z : Str} : stored (rowKvs i pl t) (Str.ofString "trouble") (.str z t') = rowKvs { i with trb := z } pl { t with v9 := t' } := rfl
end
noncomputable def troubleOf (c : Str) : Str := if c = Str.ofString "gone" then Str.ofString "gone" else if c = Str.ofString "ill" then Str.ofString "no value" else Str.ofString ""
noncomputable def askS (i : Dat) : Dat := if i.cond = Str.ofString "no" then { i with trb := troubleOf i.cond } else { i with trb := troubleOf i.cond, hits := i.hits + 1, ign := if 0 < i.ign then i.ign - 1 else i.ign }
noncomputable def askR (i : Dat) : Bool := if i.cond = Str.ofString "no" then false else if 0 < i.ign then false else true
def CondOk (c : Str) : Prop := c = Str.ofString "no" ∨ c = Str.ofString "yes" ∨ c = Str.ofString "gone" ∨ c = Str.ofString "less" ∨ c = Str.ofString "" ∨ c = Str.ofString "ill"
section
variable {prog : Program} {A : Around} {l : Addr} {vs : List Value} {c : Nat} {k : Int} {tk : Tok}
theorem item_menu {value slice : Expr} (f : Int → Str) (N0 : Int) (N : News h₀ L s.heap news) (hm : (l, listOf vs.toArray c) ∈ news) (h0 : 0 ≤ k) (h1 : k < N0) (hN : N0 ≤ 1000)
    (hx : ∀ j : Int, 0 ≤ j → j < N0 → ∃ t, vs[j.toNat]? = some (.str (f j) t)) (h : ∀ t, Q (.str (f k) t) s)
    (hs : subscripted slice false (.ref l) (.int k tk) = operate [.ref l, .int k tk] (getItem (.ref l) (.int k tk))) :
    wpAny (model prog w) A (subscriptTail value slice (.ref l) (.int k tk)) Q E s := by
  obtain ⟨t, hx⟩ := hx k h0 h1
  have hL := led_list N hm
  exact tail_any hL.typeIs slot_list_getitem.lookup (wpAny_getItem_list hL h0 (Int.lt_of_lt_of_le h1 (Int.le_trans hN (by decide))) (by simpa using hx) (h t)) hs
end
noncomputable def menu6 (k : Int) : Str := if k = 0 then Str.ofString "no" else if k = 1 then Str.ofString "yes" else if k = 2 then Str.ofString "gone" else if k = 3 then Str.ofString "less" else if k = 4 then Str.ofString "" else Str.ofString "ill"
noncomputable def menu2 (k : Int) : Str := if k = 0 then Str.ofString "yes" else Str.ofString ""
noncomputable def kindOf (k : Int) : Str := if k = 0 then Str.ofString "break" else Str.ofString "watch"
theorem nat_of {j : Int} {k : Nat} (h0 : 0 ≤ j) (h1 : j < k) : ∃ n : Nat, n < k ∧ j = n := ⟨j.toNat, (Int.toNat_lt h0).mpr h1, (Int.toNat_of_nonneg h0).symm⟩
theorem nat2 : ∀ n : Nat, n < 2 → n = 0 ∨ n = 1 := by decide
theorem nat4 : ∀ n : Nat, n < 4 → n = 0 ∨ n = 1 ∨ n = 2 ∨ n = 3 := by decide
theorem nat6 : ∀ n : Nat, n < 6 → n = 0 ∨ n = 1 ∨ n = 2 ∨ n = 3 ∨ n = 4 ∨ n = 5 := by decide
theorem int4 {s : Int} (h0 : 1 ≤ s) (h1 : s < 5) : s = 1 ∨ s = 2 ∨ s = 3 ∨ s = 4 := by
  obtain ⟨n, hn, e⟩ := nat_of (k := 4) (Int.sub_nonneg_of_le h0) (Int.sub_lt_sub_right h1 1)
  rcases nat4 n hn with rfl | rfl | rfl | rfl <;> obtain rfl := (Int.sub_eq_iff_eq_add.mp e) <;> decide
theorem menu6_at (t0 t1 t2 t3 t4 t5 : Tok) (j : Int) (h0 : 0 ≤ j) (h1 : j < 6) : ∃ t, [Value.str (Str.ofString "no") t0, .str (Str.ofString "yes") t1, .str (Str.ofString "gone") t2, .str (Str.ofString "less") t3, .str (Str.ofString "") t4, .str (Str.ofString "ill") t5][j.toNat]? = some (.str (menu6 j) t) := by
  obtain ⟨n, hn, rfl⟩ := nat_of (k := 6) h0 h1
  rcases nat6 n hn with rfl | rfl | rfl | rfl | rfl | rfl <;> exact ⟨_, rfl⟩
theorem menu2_at (t0 t1 : Tok) (j : Int) (h0 : 0 ≤ j) (h1 : j < 2) : ∃ t, [Value.str (Str.ofString "yes") t0, .str (Str.ofString "") t1][j.toNat]? = some (.str (menu2 j) t) := by
  obtain ⟨n, hn, rfl⟩ := nat_of (k := 2) h0 h1
  rcases nat2 n hn with rfl | rfl <;> exact ⟨_, rfl⟩
theorem kinds_at (t0 t1 : Tok) (j : Int) (h0 : 0 ≤ j) (h1 : j < 2) : ∃ t, [Value.str (Str.ofString "break") t0, .str (Str.ofString "watch") t1][j.toNat]? = some (.str (kindOf j) t) := by
  obtain ⟨n, hn, rfl⟩ := nat_of (k := 2) h0 h1
  rcases nat2 n hn with rfl | rfl <;> exact ⟨_, rfl⟩
theorem fmod_ge (a n : Int) (h : 0 < n) : 0 ≤ Int.fmod a n := by rw [Int.fmod_eq_emod_of_nonneg _ (Int.le_of_lt h)]; exact Int.emod_nonneg _ (Int.ne_of_gt h)
theorem fmod_lt' (a n : Int) (h : 0 < n) : Int.fmod a n < n := by rw [Int.fmod_eq_emod_of_nonneg _ (Int.le_of_lt h)]; exact Int.emod_lt_of_pos _ h
noncomputable def chg (sort value : Int) (i : Dat) : Dat :=
  if sort = 1 then { i with on := Int.fmod value 2 == 0 } else if sort = 2 then { i with cond := menu6 (Int.fmod value 6) } else if sort = 3 then { i with ign := Int.fmod value 4 } else { i with cond := menu2 (Int.fmod value 2), ign := Int.fmod value 3 }
section
variable {prog : Program} {A : Around} {l : Addr} {vs : List Value} {ns : List Int} {c : Nat} {k : Int} {tk : Tok}
theorem item_int {value slice : Expr} (N : News h₀ L s.heap news) (hm : (l, listOf vs.toArray c) ∈ news) (hi : IntsAre vs ns) (h0 : 0 ≤ k) (h1 : k < ns.length) (hk : k < 1000000) (h : ∀ t, ns.getD k.toNat 0 ∈ ns → Q (.int (ns.getD k.toNat 0) t) s)
    (hs : subscripted slice false (.ref l) (.int k tk) = operate [.ref l, .int k tk] (getItem (.ref l) (.int k tk))) :
    wpAny (model prog w) A (subscriptTail value slice (.ref l) (.int k tk)) Q E s := by
  have hlt : k.toNat < ns.length := by omega
  have e : ns[k.toNat]? = some (ns.getD k.toNat 0) := by simp [List.getD, hlt]
  obtain ⟨t, hx⟩ := hi.get k.toNat (ns.getD k.toNat 0) e
  have hL := led_list N hm
  exact tail_any hL.typeIs slot_list_getitem.lookup (wpAny_getItem_list hL h0 (by omega) (by simpa using hx) (h t (List.mem_of_getElem? e))) hs
end
theorem frGen2 {g h : Heap} {L : Addr} {m : Str → Option Value} {P : Prop} (x y : Str) (F : Fr g L h m) (k : ∀ M, M x = m x → M y = m y → Fr g L h M → P) : P := k m rfl rfl F

theorem map_self2' (m₀ : Str → Option Value) (x z : Str) : m₀ = fun y => if y = x then m₀ x else if y = z then m₀ z else m₀ y := by
    funext y
    by_cases h : y = x
    · subst h; rw [if_pos rfl]
    · rw [if_neg h]
      by_cases h2 : y = z
      · subst h2; rw [if_pos rfl]
      · rw [if_neg h2]
theorem ite_off {c : Prop} [Decidable c] {P1 P2 : Prop} (hc : ¬ c) (h : P2) : if c then P1 else P2 := by rw [if_neg hc]; exact h
theorem ite_on {c : Prop} [Decidable c] {P1 P2 : Prop} (hc : c) (h : P1) : if c then P1 else P2 := by rw [if_pos hc]; exact h
def Cut (s s' : Shared) (p : Prop) : Prop := ∃ tk, s' = { s with toks := tk } ∧ p
theorem cutV {M : Model} {A : Around} {c : Sem Value} {P : Value → Prop} {QQ : Value → Shared → Prop} (h1 : wpAny M A c (fun v s' => Cut s s' (P v)) E s) (h2 : ∀ v tk, P v → QQ v { s with toks := tk }) : wpAny M A c QQ E s :=
  wpAny_mono h1 (fun v s' p => by obtain ⟨tk, e, p⟩ := p; subst e; exact h2 v tk p) fun _ _ e => e
noncomputable def foundV (o : Option Itm) : Value := match o with | some i => .ref i.sx | none => .none
-- part C1
set_option maxRecDepth 100000 in
set_option maxHeartbeats 8000000 in
theorem told_spec {x dx sp : Addr} {kt : KTok} {i : Dat} {t : VTok} {n : Nat}
    (B : Below A₀ base outer h₀) (F : Fr h₀ L s.heap m) (X : (hd.heap_39 w.params).In h₀) (N : News h₀ L s.heap news) (T : TopM mean mg mb h₀) (hf : env.frame = some L) (hk : env.scope.kind = .function) (hd : d < 900)
    (hx : (x, instObj 82 dx) ∈ news) (hdx : (dx, dictOf (stopEs w.params kt i sp t) n) ∈ news)
    (h : ∀ h' tk D o, Fr h₀ L h' m → News h₀ L h' ((D, o) :: news) → (∀ p ∈ news, p.1 < D) → (D == sysModules) = false → o.IsDictOf (strKind prg w) (rowKvs i sp t) → Q (.ref D) { s with heap := h', toks := tk }) :
    wpAny (model prg w) (Ar d (env :: outer) gd u) (call (.ref 180) [.ref x] []) Q E s := by
  refine wpAny_call ?_
  refine code_def (binds := [(Str.ofString "stop", .ref x)]) B F X N T rfl hf hk (by k_is) (by k_is) (by k_room) (BindsTo.of_eq rfl) (locs rfl) ?_ rfl rfl rfl (by decide)
  intro g' L' h' FG' F' N' B' X' T'
  dsimp only
  k_steps
  exact h _ _ _ _ (by assumption) (by assumption) (by assumption) (by assumption) (by assumption)
-- part Eq
section
open SeqAt AutoSeq1 MeetsSeq MeetsSeq2 MeetsSeq3
variable {prog : Program} {A : Around}
/-- two values that compare as equal, in this model -/
def EqW (prog : Program) (w : World) (A : Around) (s : Shared) (y x : Value) : Prop := ∀ (E : Value → Shared → Prop) (Q : Bool → Shared → Prop), Q true s → wpAny (model prog w) A (eqBool y x) Q E s

theorem ne_loopW (l b : Addr) (items items2 : Array Value) (n n2 : Nat) (dd dd2 : Option Addr) (sl sl2 : Array (Option Value)) (hsz : items.size = items2.size) (k : Nat) :
    ∀ i : Nat, items.size - i = k → MeetsIn prog w (Builtin.«list.__eq__.loop» ⟨[.ref l, .ref b, rawInt i, rawInt 3], []⟩)
      (fun A R s => s.heap.get? l = some { cls := .type "list", dict := dd, data := .seq items n, slots := sl } ∧ s.heap.get? b = some { cls := .type "list", dict := dd2, data := .seq items2 n2, slots := sl2 } ∧
        (∀ j (h1 : j < items.size) (h2 : j < items2.size), EqW prog w A.in1 s items[j] items2[j]) ∧
        R (.ok (.ret (.bool false))) s) := by
  induction k with
  | zero =>
    intro i hk A R s h
    obtain ⟨hp, g, d, tk, os⟩ := s; obtain ⟨hl, hb, he, h⟩ := h
    wp_walk using AutoSeq1.wpAny_loadPart' hl, AutoSeq1.wpAny_loadPart' hb
    have hi1 : items[((i : Nat) : Int).toNat]? = none := Array.getElem?_eq_none (Nat.le_of_sub_eq_zero hk)
    have hi2 : items2[((i : Nat) : Int).toNat]? = none := Array.getElem?_eq_none (hsz ▸ Nat.le_of_sub_eq_zero hk)
    rw [hi1, hi2]
    wp_walk using AutoSeq1.wpAny_loadPart' hl, AutoSeq1.wpAny_loadPart' hb
    show R (.ok (.ret (.bool (items.size != items2.size)))) _
    rw [hsz]
    simpa using h
  | succ k ih =>
    intro i hk A R s h
    obtain ⟨hp, g, d, tk, os⟩ := s; obtain ⟨hl, hb, he, h⟩ := h
    wp_walk using AutoSeq1.wpAny_loadPart' hl, AutoSeq1.wpAny_loadPart' hb
    have hlt : i < items.size := Nat.lt_of_sub_eq_succ hk
    have hlt2 : i < items2.size := hsz ▸ hlt
    have hi1 : items[((i : Nat) : Int).toNat]? = some items[i] := Array.getElem?_eq_getElem hlt
    have hi2 : items2[((i : Nat) : Int).toNat]? = some items2[i] := Array.getElem?_eq_getElem hlt2
    have hc : ((i : Int) + 1) = ((i + 1 : Nat) : Int) := rfl
    rw [hi1, hi2]
    refine wpAny_bind (he i hlt hlt2 _ _ ?_)
    wp_walk
    rw [hc]
    exact ⟨plainId_quiet plain_eq_loop _, codeAny_builtin entry_eq_loop (by
      rw [Around.under_plainId plain_eq_loop _]
      exact ih (i + 1) (by rw [Nat.sub_add_eq, hk]; rfl) A R _ ⟨hl, hb, he, h⟩)⟩

theorem list_neW (l b : Addr) (items items2 : Array Value) (n n2 : Nat) (dd dd2 : Option Addr) (sl sl2 : Array (Option Value)) (hsz : items.size = items2.size) :
    MeetsIn prog w (Builtin.«list.__ne__» ⟨[.ref l, .ref b], []⟩)
      (fun A R s => s.heap.get? l = some { cls := .type "list", dict := dd, data := .seq items n, slots := sl } ∧ s.heap.get? b = some { cls := .type "list", dict := dd2, data := .seq items2 n2, slots := sl2 } ∧
        (∀ j (h1 : j < items.size) (h2 : j < items2.size), EqW prog w A.in1 s items[j] items2[j]) ∧
        R (.ok (.ret (.bool false))) s) := by
  intro A R s h
  obtain ⟨hp, g, d, tk, os⟩ := s; obtain ⟨hl, hb, he, h⟩ := h
  have f3 := AutoSeq1.sub_list_list
  have hne : ¬ (items.size != items2.size) = true := by rw [hsz, bne_self_eq_false]; exact Bool.false_ne_true
  wp_walk using AutoSeq1.wpAny_loadPart' hl, AutoSeq1.wpAny_loadPart' hb
  exact ⟨plainId_quiet plain_eq_loop _, codeAny_builtin entry_eq_loop (by
    rw [Around.under_plainId plain_eq_loop _]
    exact ne_loopW l b items items2 n n2 dd dd2 sl sl2 hsz _ 0 rfl A R _ ⟨hl, hb, he, h⟩)⟩

/-- two lists of the ledger whose items compare as equal -/
theorem ne_lists_led {l b : Addr} {items items2 : Array Value} {n n2 : Nat} (N : News h₀ L s.heap news) (ml : (l, listOf items n) ∈ news) (mb : (b, listOf items2 n2) ∈ news) (hsz : items.size = items2.size) (hu : A.units < cLine)
    (he : ∀ j (h1 : j < items.size) (h2 : j < items2.size), EqW prog w A.in1 s items[j] items2[j]) (h : Q (.bool false) s) : wpAny (model prog w) A (compareOp .NotEq (.ref l) (.ref b)) Q E s := by
  have hl := (N _ ml).1
  have hb := (N _ mb).1
  refine wpAny_richCompare_same_room (op := .NotEq) ⟨_, hl, rfl⟩ ⟨_, hb, rfl⟩ PySem.F.slot_list_ne (call_meetsIn PySem.F.slot_list_ne ⟨_, hl, rfl⟩ PySem.F.entry_list_ne (PySem.F.args_list_ne_2 _ _) (list_neW l b items items2 n n2 none none #[] #[] hsz) ?_) hu
  exact ⟨hl, hb, he, show Value.bool false ≠ Value.notImplemented ∧ Q (.bool false) s from ⟨(fun x => nomatch x), h⟩⟩

theorem eqW_refs {l b : Addr} (hne : l ≠ b) (h : ∀ (E : Value → Shared → Prop) (Q : Value → Shared → Prop), Q (.bool true) s → wpAny (model prog w) A (richCompare .Eq (.ref l) (.ref b)) Q E s) : EqW prog w A s (.ref l) (.ref b) := fun E Q hq => by
  unfold eqBool
  refine wpAny_holding ?_
  refine wpAny_ite_split (fun hab => absurd (by have := eq_of_beq hab; injection this) hne) (fun _ => ?_)
  exact wpAny_bind (h E _ (wpAny_truthy_bool hq))
end
section
variable {A : Around} {a b pa pb : Addr} {oa ob : Obj} {i : Dat} {t u : VTok} {va vb : List Value} {ka kb : Nat} {cells : List Int}
theorem row_hits (N : News h₀ L s.heap news) (la : (pa, listOf va.toArray ka) ∈ news) (lb : (pb, listOf vb.toArray kb) ∈ news) (ia : IntsAre va cells) (ib : IntsAre vb cells) (hu : A.in1.units + 64 < cLine) :
    KeqHits A.in1 s (rowKvs i pb u) (rowKvs i pa t) true := by
  have la' : s.heap.IsList pa va.toArray := ⟨_, (N _ la).1, rfl, _, rfl⟩
  have lb' : s.heap.IsList pb vb.toArray := ⟨_, (N _ lb).1, rfl, _, rfl⟩
  have z := keq_ints (A := A) la' ia lb' ib hu
  rw [decide_eq_true rfl] at z
  unfold rowKvs
  have hstr : ∀ (x : Str) (t u : Tok), SeqAt.EqAt A.in1 s (.str x t) (.str x u) true := fun x t u => by have := SeqAt.EqAt.str_str (A := A.in1) (s := s) x t x u; rwa [beq_self_eq_true] at this
  have hint : ∀ (x : Int) (t u : Tok), SeqAt.EqAt A.in1 s (.int x t) (.int x u) true := fun x t u => by have := SeqAt.EqAt.int_int (A := A.in1) (s := s) x t x u; rwa [beq_self_eq_true] at this
  have key : ∀ {k : Str} {v y : Value} {r : List (Str × Value)}, valueAt (rowKvs i pb u) k = some y → SeqAt.EqAt A.in1 s v y true → KeqHits A.in1 s (rowKvs i pb u) r true → KeqHits A.in1 s (rowKvs i pb u) ((k, v) :: r) true := fun h1 h2 h3 => KeqHits.hit (e := true) (b := true) h1 h2 h3
  refine key rfl (hint _ _ _) (key rfl (hstr _ _ _) (key rfl (hstr _ _ _) (key rfl z (key rfl (hstr _ _ _) (key rfl (hint _ _ _) (key rfl (hint _ _ _) (key rfl (.same _) (key rfl (.same _) (key rfl (hstr _ _ _) .nil)))))))))
theorem in1_room {a b c : Nat} (h : a ≤ b + 3) (g : b + 128 < c) : a + 64 < c := Nat.lt_of_le_of_lt (Nat.le_trans (Nat.add_le_add_right h 64) (Nat.add_le_add_left (by decide : 3 + 64 ≤ 128) b)) g
/-- a row that tells what another tells -/
theorem rows_same (N : News h₀ L s.heap news) (ma : (a, oa) ∈ news) (mb : (b, ob) ∈ news) (da : oa.IsDictOf (strKind prg w) (rowKvs i pa t)) (db : ob.IsDictOf (strKind prg w) (rowKvs i pb u)) (qa : (a == sysModules) = false) (qb : (b == sysModules) = false)
    (la : (pa, listOf va.toArray ka) ∈ news) (lb : (pb, listOf vb.toArray kb) ∈ news) (ia : IntsAre va cells) (ib : IntsAre vb cells) (hu : A.units + 128 < cLine) (h : Q (.bool false) s) :
    wpAny (model prg w) A (compareOp .NotEq (.ref a) (.ref b)) Q E s := by
  have hin : A.in1.units ≤ A.units + 3 := Nat.le_of_ble_eq_true (by simp [Around.in1])
  exact kne_pairs N ma mb da db qa qb rfl (Nat.lt_of_le_of_lt (Nat.le_add_right _ _) hu) (row_hits N la lb ia ib (in1_room hin hu)) h
theorem rows_eqW (hne : a ≠ b) (N : News h₀ L s.heap news) (ma : (a, oa) ∈ news) (mb : (b, ob) ∈ news) (da : oa.IsDictOf (strKind prg w) (rowKvs i pa t)) (db : ob.IsDictOf (strKind prg w) (rowKvs i pb u)) (qa : (a == sysModules) = false) (qb : (b == sysModules) = false)
    (la : (pa, listOf va.toArray ka) ∈ news) (lb : (pb, listOf vb.toArray kb) ∈ news) (ia : IntsAre va cells) (ib : IntsAre vb cells) (hu : A.units + 128 < cLine) : EqW prg w A s (.ref a) (.ref b) := by
  refine eqW_refs hne fun E Q hq => ?_
  have hin : A.in1.units ≤ A.units + 3 := Nat.le_of_ble_eq_true (by simp [Around.in1])
  exact keq_pairs N ma mb da db qa qb rfl (Nat.lt_of_le_of_lt (Nat.le_add_right _ _) hu) (row_hits N la lb ia ib (in1_room hin hu)) hq
end
section
open LCg LCt
variable {prog : Program} {A : Around} {x : Str} {ct elt : Expr} {scope : Scope} {cl : List (Str × Addr)} {S : List (Addr × Obj) → Prop} {P : Nat → Value → Prop} {Fin : List Value → List (Addr × Obj) → Prop} {n : Nat}
theorem compT_inv (J : Nat → List Value → List (Addr × Obj) → Prop) (hj : J 0 [] news)
    (turn : ∀ i ys nx v I oI C oC D m₂ h tk (E' : Value → Shared → Prop), i < n → J i ys nx → P i v → NsObj oC m₂ → m₂ x = some v → Fr h₀ L h m → News h₀ L h ((I, oI) :: (C, oC) :: (D, lst ys) :: nx) → Off3 I C D nx → ((@Ne Nat I C) ∧ (@Ne Nat I D) ∧ (@Ne Nat C D)) →
      wpAny (model prog w) A (isTrue ct (compEnvC scope cl C env) (eval ct (compEnvC scope cl C env))) (fun ok s' => if ok = true then
        wpAny (model prog w) A (eval elt (compEnvC scope cl C env)) (CompEnd h₀ L m { s with heap := h, toks := tk } I oI C oC D (lst ys) S (fun y news' => J (i + 1) (ys ++ [y]) news')) E' s'
        else CompEnd h₀ L m { s with heap := h, toks := tk } I oI C oC D (lst ys) S (fun _ news' => J (i + 1) ys news') Value.none s') E' { s with heap := h, toks := tk })
    (fin : ∀ ys nx, J n ys nx → Fin ys nx) : CompRestT prog w A h₀ L m env ct elt x scope cl s S P Fin n 0 [] news := by
  have key : ∀ k i ys nx, i + k = n → J i ys nx → CompRestT prog w A h₀ L m env ct elt x scope cl s S P Fin k i ys nx := by
    intro k
    induction k with
    | zero => intro i ys nx e j; obtain rfl : i = n := e
              exact .zero (fin _ _ j)
    | succ k ih =>
      intro i ys nx e j
      refine .succ ?_
      intro v I oI C oC D m₂ h tk E' hP hC hx F N off ne
      refine wpAny_mono (turn i ys nx v I oI C oC D m₂ h tk E' (by omega) j hP hC hx F N off ne) (fun ok s' hq => ?_) fun _ _ e => e
      cases ok with
      | true =>
        simp only [if_true] at hq ⊢
        exact wpAny_mono hq (fun y s₂ hy => compEnd_mono hy fun nx _ r => ih (i + 1) _ _ (by omega) r) fun _ _ e => e
      | false =>
        simp only [Bool.false_eq_true, if_false] at hq ⊢
        exact compEnd_mono hq fun nx _ r => ih (i + 1) _ _ (by omega) r
  exact key n 0 [] news (by omega) hj
theorem compU_inv (J : Nat → List Value → List (Addr × Obj) → Prop) (hj : J 0 [] news)
    (turn : ∀ i ys nx v I oI C oC D m₂ h tk (E' : Value → Shared → Prop), i < n → J i ys nx → P i v → NsObj oC m₂ → m₂ x = some v → Fr h₀ L h m → News h₀ L h ((I, oI) :: (C, oC) :: (D, lst ys) :: nx) → Off3 I C D nx → ((@Ne Nat I C) ∧ (@Ne Nat I D) ∧ (@Ne Nat C D)) →
      wpAny (model prog w) A (eval elt (compEnvC scope cl C env)) (CompEnd h₀ L m { s with heap := h, toks := tk } I oI C oC D (lst ys) S (fun y news' => J (i + 1) (ys ++ [y]) news')) E' { s with heap := h, toks := tk })
    (fin : ∀ ys nx, J n ys nx → Fin ys nx) : CompRest prog w A h₀ L m env elt x scope cl s S P Fin n 0 [] news := by
  have key : ∀ k i ys nx, i + k = n → J i ys nx → CompRest prog w A h₀ L m env elt x scope cl s S P Fin k i ys nx := by
    intro k
    induction k with
    | zero => intro i ys nx e j; obtain rfl : i = n := e
              exact .zero (fin _ _ j)
    | succ k ih =>
      intro i ys nx e j
      refine .succ ?_
      intro v I oI C oC D m₂ h tk E' hP hC hx F N off ne
      exact wpAny_mono (turn i ys nx v I oI C oC D m₂ h tk E' (by omega) j hP hC hx F N off ne) (fun y s₂ hy => compEnd_mono hy fun nx _ r => ih (i + 1) _ _ (by omega) r) fun _ _ e => e
  exact key n 0 [] news (by omega) hj
end
theorem eq_lists_short {prog : Program} {A : Around} {l b : Addr} {items items2 : Array Value} {n n2 : Nat} (N : News h₀ L s.heap news) (ml : (l, listOf items n) ∈ news) (mb : (b, listOf items2 n2) ∈ news) (hsz : (items.size != items2.size) = true) (hu : A.units < cLine) (h : Q (.bool false) s) :
    wpAny (model prog w) A (compareOp .Eq (.ref l) (.ref b)) Q E s := SeqAt.RcAt.lists_lengths ⟨_, (N _ ml).1, rfl, _, rfl⟩ ⟨_, (N _ mb).1, rfl, _, rfl⟩ hsz hu prog w E Q h
theorem filt_on {p : Itm → Bool} {items : List Itm} {q : Nat} {it : Itm} (h : items[q]? = some it) (e : p it = true) : ((items.take (q + 1)).filter p).map (fun j => Value.ref j.rx) = ((items.take q).filter p).map (fun j => Value.ref j.rx) ++ [Value.ref it.rx] := by
  simp [List.take_add_one, h, e]
theorem filt_off {p : Itm → Bool} {items : List Itm} {q : Nat} {it : Itm} (h : items[q]? = some it) (e : p it = false) : ((items.take (q + 1)).filter p).map (fun j => Value.ref j.rx) = ((items.take q).filter p).map (fun j => Value.ref j.rx) := by
  simp [List.take_add_one, h, e]
theorem lst_rxs (due : List Itm) : LCg.lst (due.map fun j => Value.ref j.rx) = listOf (rxs due) due.length := by simp [LCg.lst, rxs]
-- part Lc
theorem rng_size {b : Int} {n : Nat} (h : b = n) (h0 : 0 < b) : Builtin.Range.rangeSize 0 b 1 = (n : Int) := by
  unfold Builtin.Range.rangeSize
  rw [if_pos (by decide), if_pos h0, Int.ediv_one, Int.sub_zero, Int.sub_add_cancel]; exact h
theorem rng_small {b : Int} (h0 : 0 < b) (h1 : b < 1000) : Builtin.Range.small 0 b 1 = true := by
  have hs : Builtin.Range.rangeSize 0 b 1 = b := by
    unfold Builtin.Range.rangeSize
    rw [if_pos (by decide), if_pos h0, Int.ediv_one, Int.sub_zero, Int.sub_add_cancel]
  unfold Builtin.Range.small
  rw [hs]
  unfold Builtin.Range.rangeFitsLong
  simp
  omega
def Halt (P : Prop) : Prop := P
theorem stopHere {P : Prop} (h : Halt P) : P := h
/-- a def of the program, read off it -/
noncomputable def defBody (i : Nat) : List Stmt := match PySem.Challenge.pw_og0202_01.main.body[i]? with | some (.FunctionDef _ _ b _ _ _ _ _ _ _) => b | _ => []
noncomputable def defScope (i : Nat) : Scope := match PySem.Challenge.pw_og0202_01.main.body[i]? with | some (.FunctionDef _ _ _ _ _ _ sc _ _ _) => sc | _ => default
noncomputable def forBody (s : Option Stmt) : List Stmt := match s with | some (.For _ _ b _ _) => b | _ => []
noncomputable abbrev envLR (L a : Addr) (cd : Value) : Env := envOfC (Str.ofString "_law_looks_right") (defScope 14) L a cd
noncomputable abbrev frLR (L a : Addr) (cd : Value) (S RR : Addr) (last : Int) (tl : Tok) : Str → Option Value := bindL (envLR L a cd).kindOf [(Str.ofString "stops", .ref S), (Str.ofString "rows", .ref RR), (Str.ofString "last", .int last tl)] fun _ => none
noncomputable def stmtLR (i : Nat) : Stmt := (defBody 14)[i]?.getD default
theorem map2_again (f : Str → Option Value) (x z : Str) (a b c e : Option Value) : (fun y => if y = x then a else if y = z then b else if y = x then c else if y = z then e else f y) = fun y => if y = x then a else if y = z then b else f y := by
  funext y
  by_cases h : y = x
  · simp [h]
  · by_cases h' : y = z <;> simp [h, h']
/-- a turn's end of a loop whose target is a cell -/
def TurnC (h₀ : Heap) (L c : Addr) (J : (Str → Option Value) → List (Addr × Obj) → Prop) (I : Addr) (oI : Obj) (s₁ : Shared) (Q : Flow → Shared → Prop) (f : Flow) (s₂ : Shared) : Prop :=
  match f with
  | .ret v => Q (.ret v) s₂
  | .brk => Q .next s₂
  | _ => ∃ h' tk m' nx oc, s₂ = { s₁ with heap := h', toks := tk } ∧ Fr h₀ L h' m' ∧ News h₀ L h' ((I, oI) :: (c, oc) :: nx) ∧ (∀ p ∈ (c, oc) :: nx, p.1 ≠ I) ∧ (∃ v, oc.data = .cell v) ∧ J m' nx

section
variable {prog : Program} {A : Around} {x cn : Str} {cs : Scope} {ccd : Value} {cl : List (Str × Addr)} {a c : Addr} {oc : Obj} {px : Pos} {body : List Stmt} {Q : Flow → Shared → Prop} {nx₀ : List (Addr × Obj)}
theorem loopC {I : Addr} {fp : List Addr} {n : Nat} {P : Nat → Value → Prop} {St : Nat → Heap → Prop} (S : List (Addr × Obj) → Prop) (W : Walks prog w A I fp [I] n P St) (hIo : ∀ i h, St i h → ∃ o, h.get? I = some o)
    (hSt : ∀ i h h' o nw, St i h → h.get? I = some o → h'.get? I = some o → (∀ b o, h₀.get? b = some o → h'.get? b = some o) → News h₀ L h' nw → S nw → St i h')
    (J : Nat → (Str → Option Value) → List (Addr × Obj) → Prop) (hck : cs.kind = .function) (hx : (envX cn cs L a ccd cl).kindOf x = some .cell) (hc : cl.lookup x = some c)
    (hst : St 0 s.heap) (F : Fr h₀ L s.heap m) (N : News h₀ L s.heap ((c, oc) :: nx₀)) (hIL : L ≠ I) (hI₀ : h₀.get? I = none) (off : ∀ p ∈ (c, oc) :: nx₀, p.1 ≠ I)
    (hJc : ∀ i m₁ nx, J i m₁ nx → ∀ p ∈ nx, p.1 ≠ c) (hJS : ∀ i m₁ nx, J i m₁ nx → ∀ q : List (Addr × Obj), (∀ p ∈ nx, p ∈ q) → S q) (hj : J 0 m nx₀) (hoc : ∃ v, oc.data = .cell v)
    (turn : ∀ i v m₁ nx h tk oI oc, i < n → P i v → J i m₁ nx → (∀ p ∈ (c, oc) :: nx, p.1 ≠ I) → oc.data = .cell (some v) → Fr h₀ L h m₁ → News h₀ L h ((I, oI) :: (c, oc) :: nx) →
      wpAny (model prog w) A (execs body (envX cn cs L a ccd cl)) (TurnC h₀ L c (J (i + 1)) I oI { s with heap := h, toks := tk } Q) E { s with heap := h, toks := tk })
    (done : ∀ m₁ nx oc h tk, J n m₁ nx → Fr h₀ L h m₁ → News h₀ L h ((c, oc) :: nx) → (∃ v, oc.data = .cell v) → Q .next { s with heap := h, toks := tk })
    (hE : PassesOwn (model prog w) A (envX cn cs L a ccd cl) E) :
    codeAny (model prog w) A (.forLoop (.Name x px) (.ref I) body [] (envX cn cs L a ccd cl)) (fun r s' => match r with | .ok f => Q f s' | .error e => cameBackBy (model prog w) A (envX cn cs L a ccd cl) E e s') s := by
  refine codeAny_forLoop
    (fun k s' => ∃ h' tk m' nx oc i, s' = { s with heap := h', toks := tk } ∧ St i h' ∧ Fr h₀ L h' m' ∧ News h₀ L h' ((c, oc) :: nx) ∧ (∀ p ∈ (c, oc) :: nx, p.1 ≠ I) ∧ (∃ v, oc.data = .cell v) ∧ J i m' nx ∧ i ≤ n ∧ k = n + 1 - i) ?_ (n + 1)
    ⟨s.heap, s.toks, m, nx₀, oc, 0, rfl, hst, F, N, off, hoc, hj, Nat.zero_le _, rfl⟩
  rintro k s' ⟨h', tk, m', nx, oc', i, rfl, hst', F', N', off', ⟨v₀, hv₀⟩, hJ, hi, rfl⟩
  by_cases hlt : i < n
  · refine W.item i _ _ _ hlt hst' fun v h₁ tk₁ hP hst₁ hk₁ => ?_
    have F₁ := LCg.fr_but F' hk₁ hIL hI₀
    have N₁ := LCg.news_but N' hk₁ off'
    obtain ⟨oI, hoI⟩ := hIo _ _ hst₁
    have N₂ : News h₀ L h₁ ((I, oI) :: (c, oc') :: nx) := fun p hp => by
      rcases List.mem_cons.mp hp with rfl | hp
      · exact ⟨hoI, Ne.symm hIL, hI₀⟩
      · exact N₁ p hp
    have hcm := N₂ (c, oc') (List.mem_cons_of_mem _ List.mem_cons_self)
    refine wpAny_assign_Name (wpAny_storeName_cell (Q := fun _ s' => _) hck hx hc ⟨oc', hcm.1, hv₀⟩ fun h₂ hv hs => ?_)
    obtain ⟨o₂, ho₂, hd₂⟩ := hv
    have F₂ : Fr h₀ L h₂ m' := ⟨F₁.ns.sameBut hs (Ne.symm hcm.2.1), fun b ob e => (hs.2 b (fun q => by rw [q, hcm.2.2] at e; cases e)).trans (F₁.keep b ob e), F₁.above⟩
    have hIc : I ≠ c := Ne.symm (off' _ List.mem_cons_self)
    have N₃ : News h₀ L h₂ ((I, oI) :: (c, o₂) :: nx) := fun p hp => by
      rcases List.mem_cons.mp hp with rfl | hp
      · exact ⟨(hs.2 _ hIc).trans hoI, Ne.symm hIL, hI₀⟩
      · rcases List.mem_cons.mp hp with rfl | hp
        · exact ⟨ho₂, hcm.2⟩
        · have z := N₁ p (List.mem_cons_of_mem _ hp)
          exact ⟨(hs.2 _ (hJc _ _ _ hJ p hp)).trans z.1, z.2⟩
    have hst₂ : St (i + 1) h₂ := hSt _ _ _ _ ((c, o₂) :: nx) hst₁ hoI ((hs.2 _ hIc).trans hoI) F₂.keep (fun p hp => N₃ p (List.mem_cons_of_mem _ hp)) (hJS _ _ _ hJ _ fun p hp => List.mem_cons_of_mem _ hp)
    have off₂ : ∀ p ∈ (c, o₂) :: nx, p.1 ≠ I := fun p hp => by
      rcases List.mem_cons.mp hp with rfl | hp
      · exact Ne.symm hIc
      · exact off' p (List.mem_cons_of_mem _ hp)
    refine wpAny_mono (wpAny_passesOwn hE (turn i v m' nx h₂ tk₁ oI o₂ hlt hP hJ off₂ hd₂ F₂ N₃)) (fun f s₃ h₃ => ?_) fun _ _ e => e
    have go : (∃ h' tk m' nx oc, s₃ = { s with heap := h', toks := tk } ∧ Fr h₀ L h' m' ∧ News h₀ L h' ((I, oI) :: (c, oc) :: nx) ∧ (∀ p ∈ (c, oc) :: nx, p.1 ≠ I) ∧ (∃ v, oc.data = .cell v) ∧ J (i + 1) m' nx) →
        ∃ k', k' < n + 1 - i ∧ ∃ h' tk m' nx oc i, s₃ = { s with heap := h', toks := tk } ∧ St i h' ∧ Fr h₀ L h' m' ∧ News h₀ L h' ((c, oc) :: nx) ∧ (∀ p ∈ (c, oc) :: nx, p.1 ≠ I) ∧ (∃ v, oc.data = .cell v) ∧ J i m' nx ∧ i ≤ n ∧ k' = n + 1 - i := by
      rintro ⟨h₄, tk₄, m₄, nx₄, oc₄, rfl, F₄, N₄, off₄, hv₄, hJ₄⟩
      have hI₄ := (N₄ (I, oI) List.mem_cons_self).1
      have N₅ : News h₀ L h₄ ((c, oc₄) :: nx₄) := fun p hp => N₄ p (List.mem_cons_of_mem _ hp)
      exact ⟨n + 1 - (i + 1), Nat.sub_lt_sub_left (Nat.lt_succ_of_lt hlt) (Nat.lt_succ_self i), h₄, tk₄, m₄, nx₄, oc₄, i + 1, rfl, hSt _ _ _ _ _ hst₂ ((hs.2 _ hIc).trans hoI) hI₄ F₄.keep N₅ (hJS _ _ _ hJ₄ _ fun p hp => List.mem_cons_of_mem _ hp), F₄, N₅, off₄, hv₄, hJ₄, hlt, rfl⟩
    cases f with
    | ret v => exact h₃
    | brk => exact h₃
    | cont => exact go h₃
    | next => exact go h₃
  · have hin : i = n := Nat.le_antisymm hi (Nat.not_lt.mp hlt)
    subst hin
    refine W.done _ _ _ hst' fun h₁ tk₁ hk₁ => wpAny_execs_nil ?_
    exact done m' nx oc' h₁ tk₁ hJ (LCg.fr_but F' hk₁ hIL hI₀) (LCg.news_but N' hk₁ off') ⟨v₀, hv₀⟩
end
section
variable {prog : Program} {A : Around} {x cn : Str} {cs : Scope} {ccd : Value} {cl : List (Str × Addr)} {a c : Addr} {oc : Obj} {px : Pos} {body : List Stmt} {Q : Flow → Shared → Prop} {nx₀ : List (Addr × Obj)}
theorem iter_rngC {r : Addr} {b₀ : Int} {t₀ u₀ v₀ : Tok} {n : Nat} (J : Nat → (Str → Option Value) → List (Addr × Obj) → Prop) (hh : A.handled = none)
    (hr : IsRange s.heap r 0 b₀ 1 t₀ u₀ v₀) (hsmall : Builtin.Range.small 0 b₀ 1 = true) (hn : Builtin.Range.rangeSize 0 b₀ 1 = (n : Int))
    (F : Fr h₀ L s.heap m) (N : News h₀ L s.heap ((c, oc) :: nx₀))
    (hJc : ∀ i m₁ nx, J i m₁ nx → ∀ p ∈ nx, p.1 ≠ c) (hj : J 0 m nx₀) (hoc : ∃ v, oc.data = .cell v)
    (turn : ∀ i t m₁ nx h tk I oI oc, i < n → J i m₁ nx → (∀ p ∈ (c, oc) :: nx, p.1 ≠ I) → oc.data = .cell (some (.int (i : Nat) t)) → Fr h₀ L h m₁ → News h₀ L h ((I, oI) :: (c, oc) :: nx) →
      wpAny (model prog w) A (execs body (envX cn cs L a ccd cl)) (TurnC h₀ L c (J (i + 1)) I oI { s with heap := h, toks := tk } Q) E { s with heap := h, toks := tk })
    (done : ∀ m₁ nx oc h tk, J n m₁ nx → Fr h₀ L h m₁ → News h₀ L h ((c, oc) :: nx) → (∃ v, oc.data = .cell v) → Q .next { s with heap := h, toks := tk })
    (hc : cl.lookup x = some c) (hck : cs.kind = .function) (hx : (envX cn cs L a ccd cl).kindOf x = some .cell) (hE : PassesOwn (model prog w) A (envX cn cs L a ccd cl) E) :
    wpAny (model prog w) A (pyIter (.ref r)) (fun it s₂ => codeAny (model prog w) A (.forLoop (.Name x px) it body [] (envX cn cs L a ccd cl)) (fun r s' => match r with | .ok f => Q f s' | .error e => cameBackBy (model prog w) A (envX cn cs L a ccd cl) E e s') s₂) E s := by
  refine wpAny_pyIter_range hr hsmall ?_
  have W : Walks prog w A s.heap.objs.size [s.heap.objs.size] [s.heap.objs.size] n (fun i v => i < n ∧ ∃ t, v = .int (0 + i * 1) t)
      (fun i h => IsRangeIter h s.heap.objs.size (0 + (i : Nat) * 1) ((n : Int) - (i : Nat)) 1) := (Walks.range hh _ 0 1 n).bound
  refine loopC (fun _ => True) W (fun i h st => ⟨_, st⟩) LCg.range_st J hck hx hc (by show IsRangeIter _ _ _ _ _; rw [hn]; simpa using Heap.get?_push_size _ rfl) (F.push _) (fun p hp => ⟨Heap.get?_push_of_some _ (N p hp).1, (N p hp).2⟩)
    (Nat.ne_of_lt F.ns.lt) (next_is_new F) (fun p hp => Nat.ne_of_lt (Heap.lt_size (N p hp).1)) hJc (fun _ _ _ _ _ _ => trivial) hj hoc ?_ (fun m₁ nx oc h tk j F' N' v => done m₁ nx oc h tk j F' N' v) hE
  rintro i v m₁ nx h tk oI oc hi ⟨_, t, rfl⟩ hJ off hd F' N'
  have e1 : (0 : Int) + (i : Int) * 1 = (i : Int) := by rw [Int.zero_add, Int.mul_one]
  rw [e1] at hd
  exact turn i t m₁ nx h tk _ oI oc hi hJ off hd F' N'
theorem iter_ledC {l : Addr} {its : Array Value} {k : Nat} (J : Nat → (Str → Option Value) → List (Addr × Obj) → Prop) (hh : A.handled = none)
    (hl : (l, listOf its k) ∈ nx₀) (hsz : its.size ≤ sizeLine) (F : Fr h₀ L s.heap m) (N : News h₀ L s.heap ((c, oc) :: nx₀))
    (hJc : ∀ i m₁ nx, J i m₁ nx → ∀ p ∈ nx, p.1 ≠ c) (hJl : ∀ i m₁ nx, J i m₁ nx → (l, listOf its k) ∈ nx) (hj : J 0 m nx₀) (hoc : ∃ v, oc.data = .cell v)
    (turn : ∀ i v m₁ nx h tk I oI oc, its[i]? = some v → J i m₁ nx → (∀ p ∈ (c, oc) :: nx, p.1 ≠ I) → oc.data = .cell (some v) → Fr h₀ L h m₁ → News h₀ L h ((I, oI) :: (c, oc) :: nx) →
      wpAny (model prog w) A (execs body (envX cn cs L a ccd cl)) (TurnC h₀ L c (J (i + 1)) I oI { s with heap := h, toks := tk } Q) E { s with heap := h, toks := tk })
    (done : ∀ m₁ nx oc h tk, J its.size m₁ nx → Fr h₀ L h m₁ → News h₀ L h ((c, oc) :: nx) → (∃ v, oc.data = .cell v) → Q .next { s with heap := h, toks := tk })
    (hc : cl.lookup x = some c) (hck : cs.kind = .function) (hx : (envX cn cs L a ccd cl).kindOf x = some .cell) (hE : PassesOwn (model prog w) A (envX cn cs L a ccd cl) E) :
    wpAny (model prog w) A (pyIter (.ref l)) (fun it s₂ => codeAny (model prog w) A (.forLoop (.Name x px) it body [] (envX cn cs L a ccd cl)) (fun r s' => match r with | .ok f => Q f s' | .error e => cameBackBy (model prog w) A (envX cn cs L a ccd cl) E e s') s₂) E s := by
  have hlm := List.mem_cons_of_mem (c, oc) hl
  have hol : s.heap.get? l = some (listOf its k) := (N _ hlm).1
  have hls : s.heap.IsList l its := ⟨_, hol, rfl, k, rfl⟩
  have hne : l ≠ s.heap.objs.size := Nat.ne_of_lt (Heap.lt_size hol)
  refine wpAny_pyIter_list hls ?_
  refine loopC (LCg.SrcAt h₀ l its) (Walks.list (prog := prog) (w := w) hh s.heap.objs.size l hne its) (fun i h st => by obtain ⟨o, e, _⟩ := st.1; exact ⟨o, e⟩) LCg.list_st J hck hx hc ⟨⟨_, Heap.get?_push_size _ rfl, rfl, rfl⟩, hls.at fun o e => Heap.get?_push_of_some _ e⟩ (F.push _) (fun p hp => ⟨Heap.get?_push_of_some _ (N p hp).1, (N p hp).2⟩)
    (Nat.ne_of_lt F.ns.lt) (next_is_new F) (fun p hp => Nat.ne_of_lt (Heap.lt_size (N p hp).1)) hJc (fun i m₁ nx j q hq => .inr ⟨_, hq _ (hJl i m₁ nx j), rfl, _, rfl⟩) hj hoc ?_ (fun m₁ nx oc h tk j F' N' v => done m₁ nx oc h tk j F' N' v) hE
  rintro i v m₁ nx h tk oI oc hi hv hJ off hd F' N'
  exact turn i v m₁ nx h tk _ oI oc hv hJ off hd F' N'
end
-- part Ls
/-- the ledger without what stands at z -/
noncomputable def del (z : Addr) (l : List (Addr × Obj)) : List (Addr × Obj) := l.filter fun p => decide (p.1 ≠ z)
theorem mem_del {z : Addr} {p : Addr × Obj} {l : List (Addr × Obj)} : p ∈ del z l ↔ p ∈ l ∧ p.1 ≠ z := by simp [del]
theorem del_off {z : Addr} {l : List (Addr × Obj)} : ∀ p ∈ del z l, p.1 ≠ z := fun _ hp => (mem_del.mp hp).2
theorem del_in {z : Addr} {l : List (Addr × Obj)} : ∀ p ∈ del z l, p ∈ l := fun _ hp => (mem_del.mp hp).1
theorem del_sub {z : Addr} {o : Obj} {l : List (Addr × Obj)} (h : (z, o) ∈ l) : ∀ p ∈ (z, o) :: del z l, p ∈ l := fun p hp => by
  rcases List.mem_cons.mp hp with rfl | hp
  · exact h
  · exact del_in p hp
noncomputable def adr (i : Itm) : List Addr := [i.sx, i.sd, i.sp, i.rx, i.rp]
theorem ItmIn.adr {i : Itm} (x : ItmIn w news i) : ∀ a ∈ adr i, ∃ o, (a, o) ∈ news := by
  intro a ha
  obtain ⟨_, _, _, hb⟩ := x.b
  obtain ⟨_, _, hc, _⟩ := x.c
  obtain ⟨_, _, hd, _⟩ := x.d
  obtain ⟨_, _, he, _⟩ := x.e
  simp only [Mine.adr, List.mem_cons, List.not_mem_nil, or_false] at ha
  rcases ha with rfl | rfl | rfl | rfl | rfl
  · exact ⟨_, x.a⟩
  · exact ⟨_, hb⟩
  · exact ⟨_, hc⟩
  · exact ⟨_, hd⟩
  · exact ⟨_, he⟩
theorem ItmIn.subBut {i : Itm} (x : ItmIn w news i) {news' : List (Addr × Obj)} (hs : ∀ p ∈ news, p.1 ∈ Mine.adr i → p ∈ news') : ItmIn w news' i :=
  ⟨hs _ x.a (by repeat' (first | exact List.Mem.head _ | refine List.Mem.tail _ ?_)), let ⟨k, v, n, h⟩ := x.b; ⟨k, v, n, hs _ h (by repeat' (first | exact List.Mem.head _ | refine List.Mem.tail _ ?_))⟩, let ⟨k, v, h, r⟩ := x.c; ⟨k, v, hs _ h (by repeat' (first | exact List.Mem.head _ | refine List.Mem.tail _ ?_)), r⟩, let ⟨k, v, h, r⟩ := x.d; ⟨k, v, hs _ h (by repeat' (first | exact List.Mem.head _ | refine List.Mem.tail _ ?_)), r⟩, let ⟨k, v, h, r⟩ := x.e; ⟨k, v, hs _ h (by repeat' (first | exact List.Mem.head _ | refine List.Mem.tail _ ?_)), r⟩⟩
theorem nd_eq' {a b : Addr} {l : List Addr} (e : @Eq Nat a b) (h : b ∈ l) : a ∈ l := by
  have e' : a = b := e
  exact e' ▸ h
theorem ad_sxd {i : Itm} (h : (Mine.adr i).Nodup) : @Ne Nat i.sx i.sd := fun e => (List.nodup_cons.mp h).1 (nd_eq' e (.head _))
theorem ad_sxr {i : Itm} (h : (Mine.adr i).Nodup) : @Ne Nat i.sx i.rx := fun e => (List.nodup_cons.mp h).1 (nd_eq' e (.tail _ (.tail _ (.head _))))
theorem ad_sdp {i : Itm} (h : (Mine.adr i).Nodup) : @Ne Nat i.sd i.sp := fun e => (List.nodup_cons.mp (List.nodup_cons.mp h).2).1 (nd_eq' e (.head _))
theorem ad_sdr {i : Itm} (h : (Mine.adr i).Nodup) : @Ne Nat i.sd i.rx := fun e => (List.nodup_cons.mp (List.nodup_cons.mp h).2).1 (nd_eq' e (.tail _ (.head _)))
theorem ad_sdq {i : Itm} (h : (Mine.adr i).Nodup) : @Ne Nat i.sd i.rp := fun e => (List.nodup_cons.mp (List.nodup_cons.mp h).2).1 (nd_eq' e (.tail _ (.tail _ (.head _))))
theorem ad_spr {i : Itm} (h : (Mine.adr i).Nodup) : @Ne Nat i.sp i.rx := fun e => (List.nodup_cons.mp (List.nodup_cons.mp (List.nodup_cons.mp h).2).2).1 (nd_eq' e (.head _))
theorem ad_rq {i : Itm} (h : (Mine.adr i).Nodup) : @Ne Nat i.rx i.rp := fun e => (List.nodup_cons.mp (List.nodup_cons.mp (List.nodup_cons.mp (List.nodup_cons.mp h).2).2).2).1 (nd_eq' e (.head _))
theorem all5 {P : Addr → Prop} {a b c d e : Addr} (h1 : P a) (h2 : P b) (h3 : P c) (h4 : P d) (h5 : P e) : ∀ x ∈ [a, b, c, d, e], P x :=
  List.forall_mem_cons.mpr ⟨h1, List.forall_mem_cons.mpr ⟨h2, List.forall_mem_cons.mpr ⟨h3, List.forall_mem_cons.mpr ⟨h4, List.forall_mem_cons.mpr ⟨h5, fun _ h => nomatch h⟩⟩⟩⟩⟩
theorem nodup5 {sx sd sp rx rp : Addr} (a1 : @LT.lt Nat _ sp sd) (a2 : @LT.lt Nat _ sd sx) (a3 : @LT.lt Nat _ sx rx) (a4 : @LT.lt Nat _ sx rp) (a5 : @Ne Nat rx rp) : [sx, sd, sp, rx, rp].Nodup :=
  .cons (List.forall_mem_cons.mpr ⟨Nat.ne_of_gt a2, List.forall_mem_cons.mpr ⟨Nat.ne_of_gt (Nat.lt_trans a1 a2), List.forall_mem_cons.mpr ⟨Nat.ne_of_lt a3, List.forall_mem_cons.mpr ⟨Nat.ne_of_lt a4, List.forall_mem_nil _⟩⟩⟩⟩)
  (.cons (List.forall_mem_cons.mpr ⟨Nat.ne_of_gt a1, List.forall_mem_cons.mpr ⟨Nat.ne_of_lt (Nat.lt_trans a2 a3), List.forall_mem_cons.mpr ⟨Nat.ne_of_lt (Nat.lt_trans a2 a4), List.forall_mem_nil _⟩⟩⟩)
  (.cons (List.forall_mem_cons.mpr ⟨Nat.ne_of_lt (Nat.lt_trans a1 (Nat.lt_trans a2 a3)), List.forall_mem_cons.mpr ⟨Nat.ne_of_lt (Nat.lt_trans a1 (Nat.lt_trans a2 a4)), List.forall_mem_nil _⟩⟩)
  (.cons (List.forall_mem_cons.mpr ⟨a5, List.forall_mem_nil _⟩) (.cons (List.forall_mem_nil _) .nil))))
theorem adrM {i : Itm} : i.sx ∈ Mine.adr i ∧ i.sd ∈ Mine.adr i ∧ i.sp ∈ Mine.adr i ∧ i.rx ∈ Mine.adr i ∧ i.rp ∈ Mine.adr i :=
  ⟨.head _, .tail _ (.head _), .tail _ (.tail _ (.head _)), .tail _ (.tail _ (.tail _ (.head _))), .tail _ (.tail _ (.tail _ (.tail _ (.head _))))⟩
structure Good (last : Int) (b : Nat) (i : Itm) : Prop where
  cond : CondOk i.dat.cond
  ign0 : 0 ≤ i.dat.ign
  ign1 : i.dat.ign < 10
  hit0 : 0 ≤ i.dat.hits
  hit1 : i.dat.hits ≤ b
  num0 : 1 ≤ i.dat.num
  num1 : i.dat.num ≤ last
  len : i.cells.length ≤ 3
  cel : ∀ c ∈ i.cells, 0 ≤ c ∧ c < 8
structure St (w : World) (Ld : List (Addr × Obj)) (pre : List Addr) (W NA S D R RR : Addr) (items : List Itm) (p b : Nat) (last : Int) : Prop where
  fix : (R :: RR :: W :: NA :: S :: D :: pre).Nodup
  one : ∀ i ∈ items, (adr i).Nodup
  off : ∀ i ∈ items, ∀ a ∈ adr i, a ∉ R :: RR :: W :: NA :: S :: D :: pre
  two : ∀ i ∈ items, ∀ j ∈ items, i.dat.num ≠ j.dat.num → ∀ a ∈ adr i, a ∉ adr j
  nums : ∀ i ∈ items, ∀ j ∈ items, i.dat.num = j.dat.num → i = j
  hW : ∃ carry t1 t2 k, (W, listOf [Value.ref NA, .int (p : Int) t1, .int carry t2].toArray k) ∈ Ld ∧ 0 ≤ carry ∧ carry < 65537
  hNA : ∃ nvs nums c, (NA, listOf (List.toArray nvs) c) ∈ Ld ∧ IntsAre nvs nums ∧ nums.length ≤ 15 ∧ ∀ x ∈ nums, 0 ≤ x ∧ x < 2305843009213693951
  hS : (S, instObj 148 D) ∈ Ld
  hD : ∃ k0 k1 t n, (D, dictOf (stopsEs w.params k0 k1 R last t) n) ∈ Ld
  hR : ∃ k, (R, listOf (sxs items) k) ∈ Ld
  hRR : ∃ k, (RR, listOf (rxs items) k) ∈ Ld
  pin : ∀ a ∈ pre, ∃ o, (a, o) ∈ Ld
  hall : ∀ i ∈ items, ItmIn w Ld i
  good : ∀ i ∈ items, Good last b i
  len : items.length ≤ b
  l0 : 0 ≤ last
  l1 : last ≤ b
section
variable {Ld Ld' : List (Addr × Obj)} {pre : List Addr} {W NA S D R RR : Addr} {items : List Itm} {p b : Nat} {last : Int}
theorem Good.up {i : Itm} (g : Good last b i) {b' : Nat} {last' : Int} (h : b ≤ b') (hl : last ≤ last') : Good last' b' i :=
  ⟨g.cond, g.ign0, g.ign1, g.hit0, Int.le_trans g.hit1 (Int.ofNat_le.mpr h), g.num0, Int.le_trans g.num1 hl, g.len, g.cel⟩
theorem St.sub (x : St w Ld pre W NA S D R RR items p b last) (h : ∀ q ∈ Ld, q ∈ Ld') : St w Ld' pre W NA S D R RR items p b last :=
  ⟨x.fix, x.one, x.off, x.two, x.nums, let ⟨a, b, c, d, e, f⟩ := x.hW; ⟨a, b, c, d, h _ e, f⟩, let ⟨a, b, c, e, f⟩ := x.hNA; ⟨a, b, c, h _ e, f⟩, h _ x.hS, let ⟨a, b, c, d, e⟩ := x.hD; ⟨a, b, c, d, h _ e⟩,
   let ⟨a, e⟩ := x.hR; ⟨a, h _ e⟩, let ⟨a, e⟩ := x.hRR; ⟨a, h _ e⟩, fun a ha => let ⟨o, e⟩ := x.pin a ha; ⟨o, h _ e⟩, fun i hi => (x.hall i hi).sub h, x.good, x.len, x.l0, x.l1⟩
theorem St.up (x : St w Ld pre W NA S D R RR items p b last) {b' : Nat} (h : b ≤ b') : St w Ld pre W NA S D R RR items p b' last :=
  ⟨x.fix, x.one, x.off, x.two, x.nums, x.hW, x.hNA, x.hS, x.hD, x.hR, x.hRR, x.pin, x.hall, fun i hi => (x.good i hi).up h (Int.le_refl _), by have := x.len; omega, x.l0, by have := x.l1; omega⟩
/-- every address that the state names stands in the ledger -/
theorem St.fixIn (x : St w Ld pre W NA S D R RR items p b last) : ∀ a ∈ R :: RR :: W :: NA :: S :: D :: pre, ∃ o, (a, o) ∈ Ld := by
  intro a ha
  obtain ⟨_, _, _, _, hW, _⟩ := x.hW
  obtain ⟨_, _, _, hNA, _⟩ := x.hNA
  obtain ⟨_, _, _, _, hD⟩ := x.hD
  obtain ⟨_, hR⟩ := x.hR
  obtain ⟨_, hRR⟩ := x.hRR
  simp only [List.mem_cons] at ha
  rcases ha with rfl | rfl | rfl | rfl | rfl | rfl | ha
  · exact ⟨_, hR⟩
  · exact ⟨_, hRR⟩
  · exact ⟨_, hW⟩
  · exact ⟨_, hNA⟩
  · exact ⟨_, x.hS⟩
  · exact ⟨_, hD⟩
  · exact x.pin a ha
theorem nd_eq {a b : Addr} {l : List Addr} (e : @Eq Nat a b) (h : b ∈ l) : a ∈ l := by
  have e' : a = b := e
  exact e' ▸ h
theorem St.nrr (x : St w Ld pre W NA S D R RR items p b last) : @Ne Nat R RR := fun e => (List.nodup_cons.mp x.fix).1 (nd_eq e (.head _))
theorem St.nrs (x : St w Ld pre W NA S D R RR items p b last) : @Ne Nat R S := fun e => (List.nodup_cons.mp x.fix).1 (nd_eq e (.tail _ (.tail _ (.tail _ (.head _)))))
theorem St.nrd (x : St w Ld pre W NA S D R RR items p b last) : @Ne Nat R D := fun e => (List.nodup_cons.mp x.fix).1 (nd_eq e (.tail _ (.tail _ (.tail _ (.tail _ (.head _))))))
theorem St.nRD (x : St w Ld pre W NA S D R RR items p b last) : @Ne Nat RR D := fun e => (List.nodup_cons.mp (List.nodup_cons.mp x.fix).2).1 (nd_eq e (.tail _ (.tail _ (.tail _ (.head _)))))
theorem St.nwn (x : St w Ld pre W NA S D R RR items p b last) : @Ne Nat W NA := fun e => (List.nodup_cons.mp (List.nodup_cons.mp (List.nodup_cons.mp x.fix).2).2).1 (nd_eq e (.head _))
theorem St.nsd (x : St w Ld pre W NA S D R RR items p b last) : @Ne Nat S D := fun e => (List.nodup_cons.mp (List.nodup_cons.mp (List.nodup_cons.mp (List.nodup_cons.mp (List.nodup_cons.mp x.fix).2).2).2).2).1 (nd_eq e (.head _))
theorem St.pr (x : St w Ld pre W NA S D R RR items p b last) {c : Addr} (hc : c ∈ pre) : @Ne Nat c R := fun e => (List.nodup_cons.mp x.fix).1 (nd_eq (Eq.symm e) (.tail _ (.tail _ (.tail _ (.tail _ (.tail _ (hc)))))))
theorem St.pw (x : St w Ld pre W NA S D R RR items p b last) {c : Addr} (hc : c ∈ pre) : @Ne Nat c W := fun e => (List.nodup_cons.mp (List.nodup_cons.mp (List.nodup_cons.mp x.fix).2).2).1 (nd_eq (Eq.symm e) (.tail _ (.tail _ (.tail _ (hc)))))
theorem St.pd (x : St w Ld pre W NA S D R RR items p b last) {c : Addr} (hc : c ∈ pre) : @Ne Nat c D := fun e => (List.nodup_cons.mp (List.nodup_cons.mp (List.nodup_cons.mp (List.nodup_cons.mp (List.nodup_cons.mp (List.nodup_cons.mp x.fix).2).2).2).2).2).1 (nd_eq (Eq.symm e) (hc))
theorem St.pre2 {I c : Addr} (x : St w Ld [I, c] W NA S D R RR items p b last) : @Ne Nat c I := fun e => (List.nodup_cons.mp (List.nodup_cons.mp (List.nodup_cons.mp (List.nodup_cons.mp (List.nodup_cons.mp (List.nodup_cons.mp (List.nodup_cons.mp x.fix).2).2).2).2).2).2).1 (nd_eq (Eq.symm e) (.head _))
theorem St.fixItm (x : St w Ld pre W NA S D R RR items p b last) {it : Itm} (hit : it ∈ items) {c : Addr} (hc : c ∈ R :: RR :: W :: NA :: S :: D :: pre) : @Ne Nat c it.rx ∧ @Ne Nat c it.sd :=
  ⟨fun e => x.off it hit it.rx adrM.2.2.2.1 ((show c = it.rx from e) ▸ hc), fun e => x.off it hit it.sd adrM.2.1 ((show c = it.sd from e) ▸ hc)⟩
theorem St.preItm (x : St w Ld pre W NA S D R RR items p b last) {it : Itm} (hit : it ∈ items) {c : Addr} (hc : c ∈ pre) : @Ne Nat c it.rx ∧ @Ne Nat c it.sd :=
  x.fixItm hit (.tail _ (.tail _ (.tail _ (.tail _ (.tail _ (.tail _ hc))))))
theorem St.twoItm (x : St w Ld pre W NA S D R RR items p b last) {it j : Itm} (hit : it ∈ items) (hj : j ∈ items) (e : j.dat.num ≠ it.dat.num) : @Ne Nat j.sx it.rx ∧ @Ne Nat j.sd it.rx :=
  ⟨fun q => x.two j hj it hit e j.sx adrM.1 ((show j.sx = it.rx from q) ▸ adrM.2.2.2.1), fun q => x.two j hj it hit e j.sd adrM.2.1 ((show j.sd = it.rx from q) ▸ adrM.2.2.2.1)⟩
theorem St.freshFix (x : St w Ld pre W NA S D R RR items p b last) {z : Addr} (hz : ∀ q ∈ Ld, q.1 ≠ z) : z ∉ R :: RR :: W :: NA :: S :: D :: pre := fun h =>
  let ⟨_, e⟩ := x.fixIn z h; hz _ e rfl
theorem St.freshItm (x : St w Ld pre W NA S D R RR items p b last) {z : Addr} (hz : ∀ q ∈ Ld, q.1 ≠ z) : ∀ i ∈ items, z ∉ adr i := fun i hi h =>
  let ⟨_, e⟩ := (x.hall i hi).adr z h; hz _ e rfl
/-- an address more, or one less, that all else stands off from -/
theorem St.more (x : St w Ld pre W NA S D R RR items p b last) {z : Addr} {o : Obj} (hz : ∀ q ∈ Ld, q.1 ≠ z) : St w ((z, o) :: Ld) (z :: pre) W NA S D R RR items p b last := by
  have hf := x.freshFix hz
  have hi := x.freshItm hz
  have y := x.sub (Ld' := (z, o) :: Ld) fun _ h => List.mem_cons_of_mem _ h
  refine ⟨?_, x.one, ?_, x.two, x.nums, y.hW, y.hNA, y.hS, y.hD, y.hR, y.hRR, ?_, y.hall, x.good, x.len, x.l0, x.l1⟩
  · have h1 : (R :: RR :: W :: NA :: S :: D :: z :: pre).Perm (z :: R :: RR :: W :: NA :: S :: D :: pre) :=
      (List.perm_middle (l₁ := [R, RR, W, NA, S, D]) (a := z) (l₂ := pre))
    exact h1.nodup_iff.mpr (List.nodup_cons.mpr ⟨hf, x.fix⟩)
  · intro i hi' a ha hm
    have := x.off i hi' a ha
    simp only [List.mem_cons] at this hm
    rcases hm with rfl | rfl | rfl | rfl | rfl | rfl | rfl | hm
    all_goals first | exact this (by simp) | skip
    · exact hi i hi' ha
    · exact this (by simp [hm])
  · intro a ha
    rcases List.mem_cons.mp ha with rfl | ha
    · exact ⟨_, List.mem_cons_self⟩
    · exact y.pin a ha
theorem St.unpre {z : Addr} (x : St w Ld (z :: pre) W NA S D R RR items p b last) (hd : ∀ q ∈ Ld, q.1 ≠ z → q ∈ Ld') : St w Ld' pre W NA S D R RR items p b last := by
  have hn := x.fix
  have h1 : (R :: RR :: W :: NA :: S :: D :: z :: pre).Perm (z :: R :: RR :: W :: NA :: S :: D :: pre) :=
      (List.perm_middle (l₁ := [R, RR, W, NA, S, D]) (a := z) (l₂ := pre))
  obtain ⟨h2, h3⟩ := List.nodup_cons.mp (h1.nodup_iff.mp hn)
  have hne : ∀ a ∈ R :: RR :: W :: NA :: S :: D :: pre, a ≠ z := fun a ha e => h2 (e ▸ ha)
  refine ⟨h3, x.one, fun i hi a ha hm => x.off i hi a ha (h1.mem_iff.mpr (List.mem_cons_of_mem _ hm)), x.two, x.nums, ?_, ?_, hd _ x.hS (hne _ (by repeat' (first | exact List.Mem.head _ | refine List.Mem.tail _ ?_))), ?_, ?_, ?_, ?_, ?_, x.good, x.len, x.l0, x.l1⟩
  · obtain ⟨a, b, c, d, e, f⟩ := x.hW; exact ⟨a, b, c, d, hd _ e (hne _ (by repeat' (first | exact List.Mem.head _ | refine List.Mem.tail _ ?_))), f⟩
  · obtain ⟨a, b, c, e, f⟩ := x.hNA; exact ⟨a, b, c, hd _ e (hne _ (by repeat' (first | exact List.Mem.head _ | refine List.Mem.tail _ ?_))), f⟩
  · obtain ⟨a, b, c, d, e⟩ := x.hD; exact ⟨a, b, c, d, hd _ e (hne _ (by repeat' (first | exact List.Mem.head _ | refine List.Mem.tail _ ?_)))⟩
  · obtain ⟨a, e⟩ := x.hR; exact ⟨a, hd _ e (hne _ (by repeat' (first | exact List.Mem.head _ | refine List.Mem.tail _ ?_)))⟩
  · obtain ⟨a, e⟩ := x.hRR; exact ⟨a, hd _ e (hne _ (by repeat' (first | exact List.Mem.head _ | refine List.Mem.tail _ ?_)))⟩
  · intro a ha; obtain ⟨o, e⟩ := x.pin a (List.mem_cons_of_mem _ ha); exact ⟨o, hd _ e (hne _ (by repeat' (first | exact ha | exact List.Mem.head _ | refine List.Mem.tail _ ?_)))⟩
  · intro i hi
    exact (x.hall i hi).subBut fun q hq hm => hd q hq fun e => x.off i hi _ hm (h1.mem_iff.mpr (e ▸ List.mem_cons_self))
/-- the well has been drawn from -/
theorem St.draw (x : St w Ld pre W NA S D R RR items p b last) {carry : Int} {t1 t2 : Tok} {k : Nat} (hw : (W, listOf [Value.ref NA, .int ((p : Int) + 1) t1, .int carry t2].toArray k) ∈ Ld') (h0 : 0 ≤ carry) (h1 : carry < 65537)
    (hd : ∀ q ∈ Ld, q.1 ≠ W → q ∈ Ld') : St w Ld' pre W NA S D R RR items (p + 1) b last := by
  have hn := x.fix
  have h1' : (R :: RR :: W :: NA :: S :: D :: pre).Perm (W :: R :: RR :: NA :: S :: D :: pre) :=
      (List.perm_middle (l₁ := [R, RR]) (a := W) (l₂ := NA :: S :: D :: pre))
  obtain ⟨h2, h3⟩ := List.nodup_cons.mp (h1'.nodup_iff.mp hn)
  have hne : ∀ a ∈ R :: RR :: NA :: S :: D :: pre, a ≠ W := fun a ha e => h2 (e ▸ ha)
  refine ⟨hn, x.one, x.off, x.two, x.nums, ⟨_, _, _, _, hw, h0, h1⟩, ?_, hd _ x.hS (hne _ (by repeat' (first | exact List.Mem.head _ | refine List.Mem.tail _ ?_))), ?_, ?_, ?_, ?_, ?_, x.good, x.len, x.l0, x.l1⟩
  · obtain ⟨a, b, c, e, f⟩ := x.hNA; exact ⟨a, b, c, hd _ e (hne _ (by repeat' (first | exact List.Mem.head _ | refine List.Mem.tail _ ?_))), f⟩
  · obtain ⟨a, b, c, d, e⟩ := x.hD; exact ⟨a, b, c, d, hd _ e (hne _ (by repeat' (first | exact List.Mem.head _ | refine List.Mem.tail _ ?_)))⟩
  · obtain ⟨a, e⟩ := x.hR; exact ⟨a, hd _ e (hne _ (by repeat' (first | exact List.Mem.head _ | refine List.Mem.tail _ ?_)))⟩
  · obtain ⟨a, e⟩ := x.hRR; exact ⟨a, hd _ e (hne _ (by repeat' (first | exact List.Mem.head _ | refine List.Mem.tail _ ?_)))⟩
  · intro a ha; obtain ⟨o, e⟩ := x.pin a ha; exact ⟨o, hd _ e (hne _ (by repeat' (first | exact ha | exact List.Mem.head _ | refine List.Mem.tail _ ?_)))⟩
  · intro i hi
    exact (x.hall i hi).subBut fun q hq hm => hd q hq fun e => x.off i hi _ hm (by rw [e]; simp)
/-- one item's data are others -/
noncomputable def upd (z : Int) (d : Dat) (items : List Itm) : List Itm := items.map fun j => if j.dat.num = z then { j with dat := d } else j
theorem sxs_upd (z : Int) (d : Dat) (items : List Itm) : sxs (upd z d items) = sxs items := by
  simp only [sxs, upd, List.map_map]
  congr 1
  apply List.map_congr_left
  intro j _
  simp only [Function.comp]
  split <;> rfl
theorem rxs_upd (z : Int) (d : Dat) (items : List Itm) : rxs (upd z d items) = rxs items := by
  simp only [rxs, upd, List.map_map]
  congr 1
  apply List.map_congr_left
  intro j _
  simp only [Function.comp]
  split <;> rfl
theorem mem_upd {z : Int} {d : Dat} {items : List Itm} {j : Itm} (h : j ∈ upd z d items) : ∃ i ∈ items, (i.dat.num = z ∧ j = { i with dat := d }) ∨ (i.dat.num ≠ z ∧ j = i) := by
  simp only [upd, List.mem_map] at h
  obtain ⟨i, hi, rfl⟩ := h
  refine ⟨i, hi, ?_⟩
  split
  · rename_i e; exact .inl ⟨e, rfl⟩
  · rename_i e; exact .inr ⟨e, rfl⟩
theorem mem_upd' {z : Int} {d : Dat} (hz : d.num = z) {items : List Itm} {j : Itm} (h : j ∈ upd z d items) : ∃ i ∈ items, adr j = adr i ∧ j.dat.num = i.dat.num ∧ j.cells = i.cells := by
  obtain ⟨i, hi, (⟨e, rfl⟩ | ⟨e, rfl⟩)⟩ := mem_upd h
  · exact ⟨i, hi, rfl, by simp [e, hz], rfl⟩
  · exact ⟨_, hi, rfl, rfl, rfl⟩
theorem St.change (x : St w Ld pre W NA S D R RR items p b last) {it : Itm} (hit : it ∈ items) {d : Dat} (hz : d.num = it.dat.num) {b' : Nat} (hb : b ≤ b') (hg : Good last b' { it with dat := d }) {o : Obj} {vt vt' : VTok} {kt : KTok} {n : Nat}
    (h1 : (it.rx, o) ∈ Ld') (h2 : o.IsDictOf (strKind prg w) (rowKvs d it.rp vt)) (h3 : (it.sd, dictOf (stopEs w.params kt d it.sp vt') n) ∈ Ld') (hd : ∀ q ∈ Ld, q.1 ≠ it.rx → q.1 ≠ it.sd → q ∈ Ld') :
    St w Ld' pre W NA S D R RR (upd it.dat.num d items) p b' last := by
  have ho := x.off it hit
  have hne1 : ∀ a ∈ R :: RR :: W :: NA :: S :: D :: pre, a ≠ it.rx := fun a ha e => ho it.rx (by simp [adr]) (e ▸ ha)
  have hne2 : ∀ a ∈ R :: RR :: W :: NA :: S :: D :: pre, a ≠ it.sd := fun a ha e => ho it.sd (by simp [adr]) (e ▸ ha)
  have hF : ∀ a o, a ∈ R :: RR :: W :: NA :: S :: D :: pre → (a, o) ∈ Ld → (a, o) ∈ Ld' := fun a o ha hm => hd _ hm (hne1 a ha) (hne2 a ha)
  have hnd := x.one it hit
  refine ⟨x.fix, ?_, ?_, ?_, ?_, ?_, ?_, hF _ _ (by repeat' (first | exact List.Mem.head _ | refine List.Mem.tail _ ?_)) x.hS, ?_, ?_, ?_, ?_, ?_, ?_, by have := x.len; simp only [upd, List.length_map]; omega, x.l0, by have := x.l1; omega⟩
  · intro j hj; obtain ⟨i, hi, e, _⟩ := mem_upd' hz hj; rw [e]; exact x.one i hi
  · intro j hj; obtain ⟨i, hi, e, _⟩ := mem_upd' hz hj; rw [e]; exact x.off i hi
  · intro j hj j' hj' hn
    obtain ⟨i, hi, e, e1, _⟩ := mem_upd' hz hj
    obtain ⟨i', hi', e', e1', _⟩ := mem_upd' hz hj'
    rw [e, e']; exact x.two i hi i' hi' (by rw [← e1, ← e1']; exact hn)
  · intro j hj j' hj' hn
    obtain ⟨i, hi, h | h⟩ := mem_upd hj <;> obtain ⟨i', hi', h' | h'⟩ := mem_upd hj'
    · have := x.nums i hi i' hi' (by rw [h.1, h'.1]); subst this; rw [h.2, h'.2]
    · exfalso; apply h'.1; rw [← h'.2, ← hn, h.2]; exact hz
    · exfalso; apply h.1; rw [← h.2, hn, h'.2]; exact hz
    · have := x.nums i hi i' hi' (by rw [← h.2, ← h'.2]; exact hn); rw [h.2, h'.2, this]
  · obtain ⟨a, b, c, d, e, f⟩ := x.hW; exact ⟨a, b, c, d, hF _ _ (by repeat' (first | exact List.Mem.head _ | refine List.Mem.tail _ ?_)) e, f⟩
  · obtain ⟨a, b, c, e, f⟩ := x.hNA; exact ⟨a, b, c, hF _ _ (by repeat' (first | exact List.Mem.head _ | refine List.Mem.tail _ ?_)) e, f⟩
  · obtain ⟨a, b, c, d, e⟩ := x.hD; exact ⟨a, b, c, d, hF _ _ (by repeat' (first | exact List.Mem.head _ | refine List.Mem.tail _ ?_)) e⟩
  · obtain ⟨a, e⟩ := x.hR; exact ⟨a, by rw [sxs_upd]; exact hF _ _ (by repeat' (first | exact List.Mem.head _ | refine List.Mem.tail _ ?_)) e⟩
  · obtain ⟨a, e⟩ := x.hRR; exact ⟨a, by rw [rxs_upd]; exact hF _ _ (by repeat' (first | exact List.Mem.head _ | refine List.Mem.tail _ ?_)) e⟩
  · intro a ha; obtain ⟨o, e⟩ := x.pin a ha; exact ⟨o, hF _ _ (by repeat' (first | exact ha | exact List.Mem.head _ | refine List.Mem.tail _ ?_)) e⟩
  · intro j hj
    obtain ⟨i, hi, h | h⟩ := mem_upd hj
    · have := x.nums i hi it hit h.1; subst this
      rw [h.2]
      have hin := x.hall i hi
      obtain ⟨v1, c1, p1, p2⟩ := hin.c
      obtain ⟨v2, c2, p3, p4⟩ := hin.e
      have q1 : @Ne Nat i.sx i.rx := (ad_sxr hnd)
      have q2 : @Ne Nat i.sx i.sd := (ad_sxd hnd)
      have q3 : @Ne Nat i.sp i.rx := (ad_spr hnd)
      have q4 : @Ne Nat i.sp i.sd := Ne.symm (ad_sdp hnd)
      have q5 : @Ne Nat i.rp i.rx := Ne.symm (ad_rq hnd)
      have q6 : @Ne Nat i.rp i.sd := Ne.symm (ad_sdq hnd)
      obtain ⟨_, _, _, _, q7⟩ := hin.d
      exact ⟨hd _ hin.a q1 q2, ⟨_, _, _, h3⟩, ⟨_, _, hd _ p1 q3 q4, p2⟩, ⟨_, _, h1, h2, q7⟩, ⟨_, _, hd _ p3 q5 q6, p4⟩⟩
    · rw [h.2]
      exact (x.hall i hi).subBut fun q hq hm => hd q hq (fun e => x.two i hi it hit h.1 _ hm (by simp [adr, e])) (fun e => x.two i hi it hit h.1 _ hm (by simp [adr, e]))
  · intro j hj
    obtain ⟨i, hi, h | h⟩ := mem_upd hj
    · have := x.nums i hi it hit h.1; subst this
      rw [h.2]; exact hg
    · rw [h.2]; exact (x.good i hi).up hb (Int.le_refl _)
/-- some items are taken away -/
theorem St.delete (x : St w Ld pre W NA S D R RR items p b last) {z : Int} {D' RR' : Addr} {c k n : Nat} {k0 k1 t : Tok}
    (h1 : (D', listOf (sxs (items.filter (fun j => decide (j.dat.num ≠ z)))) c) ∈ Ld') (h2 : (D, dictOf (stopsEs w.params k0 k1 D' last t) n) ∈ Ld') (h3 : (RR', listOf (rxs (items.filter (fun j => decide (j.dat.num ≠ z)))) k) ∈ Ld')
    (f1 : ∀ q ∈ Ld, q.1 ≠ D') (f2 : ∀ q ∈ Ld, q.1 ≠ RR') (f3 : @Ne Nat D' RR') (hd : ∀ q ∈ Ld, q.1 ≠ D → q ∈ Ld') :
    St w Ld' pre W NA S D D' RR' (items.filter (fun j => decide (j.dat.num ≠ z))) p b last := by
  have hn := x.fix
  have h1' : (R :: RR :: W :: NA :: S :: D :: pre).Perm (D :: R :: RR :: W :: NA :: S :: pre) :=
      (List.perm_middle (l₁ := [R, RR, W, NA, S]) (a := D) (l₂ := pre))
  obtain ⟨h2', h3'⟩ := List.nodup_cons.mp (h1'.nodup_iff.mp hn)
  have hne : ∀ a ∈ R :: RR :: W :: NA :: S :: pre, a ≠ D := fun a ha e => h2' (e ▸ ha)
  have g1 := x.freshFix f1
  have g2 := x.freshFix f2
  have sub : ∀ i ∈ items.filter (fun j => decide (j.dat.num ≠ z)), i ∈ items := fun i hi => (List.mem_filter.mp hi).1
  have hnn := (List.nodup_cons.mp (List.nodup_cons.mp hn).2).2
  refine ⟨?_, fun i hi => x.one i (sub i hi), ?_, fun i hi j hj => x.two i (sub i hi) j (sub j hj), fun i hi j hj => x.nums i (sub i hi) j (sub j hj), ?_, ?_, hd _ x.hS (hne _ (by repeat' (first | exact List.Mem.head _ | refine List.Mem.tail _ ?_))), ⟨_, _, _, _, h2⟩, ⟨_, h1⟩, ⟨_, h3⟩, ?_, ?_, fun i hi => x.good i (sub i hi), Nat.le_trans (List.length_filter_le _ _) x.len, x.l0, x.l1⟩
  · refine List.nodup_cons.mpr ⟨fun hm => ?_, List.nodup_cons.mpr ⟨fun hm => ?_, hnn⟩⟩
    · rcases List.mem_cons.mp hm with e | hm
      · exact f3 e
      · exact g1 (List.mem_cons_of_mem _ (List.mem_cons_of_mem _ hm))
    · exact g2 (List.mem_cons_of_mem _ (List.mem_cons_of_mem _ hm))
  · intro i hi a ha hm
    rcases List.mem_cons.mp hm with e | hm
    · exact x.freshItm f1 i (sub i hi) (e ▸ ha)
    rcases List.mem_cons.mp hm with e | hm
    · exact x.freshItm f2 i (sub i hi) (e ▸ ha)
    exact x.off i (sub i hi) a ha (List.mem_cons_of_mem _ (List.mem_cons_of_mem _ hm))
  · obtain ⟨a, b, c, d, e, f⟩ := x.hW; exact ⟨a, b, c, d, hd _ e (hne _ (by repeat' (first | exact List.Mem.head _ | refine List.Mem.tail _ ?_))), f⟩
  · obtain ⟨a, b, c, e, f⟩ := x.hNA; exact ⟨a, b, c, hd _ e (hne _ (by repeat' (first | exact List.Mem.head _ | refine List.Mem.tail _ ?_))), f⟩
  · intro a ha; obtain ⟨o, e⟩ := x.pin a ha; exact ⟨o, hd _ e (hne _ (by repeat' (first | exact ha | exact List.Mem.head _ | refine List.Mem.tail _ ?_)))⟩
  · intro i hi
    exact (x.hall i (sub i hi)).subBut fun q hq hm => hd q hq fun e => x.off i (sub i hi) _ hm (by rw [e]; simp)
theorem sxs_push (items : List Itm) (it : Itm) : (sxs items).push (.ref it.sx) = sxs (items ++ [it]) := by simp [sxs]
/-- an item more -/
theorem St.new (x : St w Ld pre W NA S D R RR items p b last) {it : Itm} {RR' : Addr} {k kr n : Nat} {k0 k1 t : Tok}
    (h1 : (D, dictOf (stopsEs w.params k0 k1 R (last + 1) t) n) ∈ Ld') (h2 : (R, listOf (sxs (items ++ [it])) k) ∈ Ld') (h3 : (RR', listOf (rxs (items ++ [it])) kr) ∈ Ld') (hi : ItmIn w Ld' it) (hg : Good (last + 1) (b + 1) it) (hnum : it.dat.num = last + 1)
    (hn1 : (adr it).Nodup) (hfr : ∀ a ∈ adr it, ∀ q ∈ Ld, q.1 ≠ a) (f2 : ∀ q ∈ Ld, q.1 ≠ RR') (f3 : ∀ a ∈ adr it, @Ne Nat a RR') (hd : ∀ q ∈ Ld, q.1 ≠ D → q.1 ≠ R → q ∈ Ld') :
    St w Ld' pre W NA S D R RR' (items ++ [it]) p (b + 1) (last + 1) := by
  have hn := x.fix
  have hneD : ∀ a ∈ RR :: W :: NA :: S :: pre, a ≠ D := by
    have h1' : (R :: RR :: W :: NA :: S :: D :: pre).Perm (D :: R :: RR :: W :: NA :: S :: pre) :=
      (List.perm_middle (l₁ := [R, RR, W, NA, S]) (a := D) (l₂ := pre))
    exact fun a ha e => (List.nodup_cons.mp (h1'.nodup_iff.mp hn)).1 (e ▸ List.mem_cons_of_mem _ ha)
  have hneR : ∀ a ∈ RR :: W :: NA :: S :: D :: pre, a ≠ R := fun a ha e => (List.nodup_cons.mp hn).1 (e ▸ ha)
  have hF : ∀ a o, a ∈ RR :: W :: NA :: S :: pre → (a, o) ∈ Ld → (a, o) ∈ Ld' := fun a o ha hm => hd _ hm (hneD a ha) (hneR a (by simp only [List.mem_cons] at ha ⊢; rcases ha with h | h | h | h | h <;> simp [h]))
  have g2 := x.freshFix f2
  have cas : ∀ i ∈ items ++ [it], i ∈ items ∨ i = it := fun i hi => by simpa using hi
  have hR1 := (List.nodup_cons.mp hn)
  have hnlt : ∀ i ∈ items, i.dat.num ≠ it.dat.num := fun i hi e => absurd (x.good i hi).num1 (by rw [e, hnum]; exact Int.not_le.mpr (Int.lt_add_one_of_le (Int.le_refl _)))
  refine ⟨?_, ?_, ?_, ?_, ?_, ?_, ?_, hF _ _ (by repeat' (first | exact List.Mem.head _ | refine List.Mem.tail _ ?_)) x.hS, ⟨_, _, _, _, h1⟩, ⟨_, h2⟩, ⟨_, h3⟩, ?_, ?_, ?_, by have := x.len; simp; omega, by have := x.l0; omega, Int.add_le_add_right x.l1 1⟩
  · refine List.nodup_cons.mpr ⟨fun hm => ?_, List.nodup_cons.mpr ⟨fun hm => ?_, (List.nodup_cons.mp hR1.2).2⟩⟩
    · rcases List.mem_cons.mp hm with e | hm
      · exact g2 (e ▸ List.mem_cons_self)
      · exact hR1.1 (List.mem_cons_of_mem _ hm)
    · exact g2 (List.mem_cons_of_mem _ (List.mem_cons_of_mem _ hm))
  · intro i hi'
    rcases cas i hi' with hi' | rfl
    · exact x.one i hi'
    · exact hn1
  · intro i hi' a ha hm
    rcases cas i hi' with hi' | rfl
    · rcases List.mem_cons.mp hm with e | hm
      · exact x.off i hi' a ha (e ▸ List.mem_cons_self)
      rcases List.mem_cons.mp hm with e | hm
      · exact x.freshItm f2 i hi' (e ▸ ha)
      exact x.off i hi' a ha (List.mem_cons_of_mem _ (List.mem_cons_of_mem _ hm))
    · rcases List.mem_cons.mp hm with e | hm
      · exact x.freshFix (hfr a ha) (e ▸ List.mem_cons_self)
      rcases List.mem_cons.mp hm with e | hm
      · exact f3 a ha e
      exact x.freshFix (hfr a ha) (List.mem_cons_of_mem _ (List.mem_cons_of_mem _ hm))
  · intro i hi' j hj' hne a ha hm
    rcases cas i hi' with hi9 | e1 <;> rcases cas j hj' with hj9 | e2
    · exact x.two i hi9 j hj9 hne a ha hm
    · exact x.freshItm (hfr a (e2 ▸ hm)) i hi9 ha
    · exact x.freshItm (hfr a (e1 ▸ ha)) j hj9 hm
    · exact hne (by rw [e1, e2])
  · intro i hi' j hj' e
    rcases cas i hi' with hi9 | e1 <;> rcases cas j hj' with hj9 | e2
    · exact x.nums i hi9 j hj9 e
    · exact absurd (e2 ▸ e) (hnlt i hi9)
    · exact absurd (e1 ▸ e).symm (hnlt j hj9)
    · rw [e1, e2]
  · obtain ⟨a, b, c, d, e, f⟩ := x.hW; exact ⟨a, b, c, d, hF _ _ (by repeat' (first | exact List.Mem.head _ | refine List.Mem.tail _ ?_)) e, f⟩
  · obtain ⟨a, b, c, e, f⟩ := x.hNA; exact ⟨a, b, c, hF _ _ (by repeat' (first | exact List.Mem.head _ | refine List.Mem.tail _ ?_)) e, f⟩
  · intro a ha; obtain ⟨o, e⟩ := x.pin a ha; exact ⟨o, hF _ _ (by repeat' (first | exact ha | exact List.Mem.head _ | refine List.Mem.tail _ ?_)) e⟩
  · intro i hi'
    rcases cas i hi' with hi' | rfl
    · exact (x.hall i hi').subBut fun q hq hm => hd q hq (fun e => x.off i hi' _ hm (by rw [e]; simp)) (fun e => x.off i hi' _ hm (by rw [e]; simp))
    · exact hi
  · intro i hi'
    rcases cas i hi' with hi' | rfl
    · exact (x.good i hi').up (Nat.le_succ _) (Int.le_add_one (Int.le_refl _))
    · exact hg
/-- the number tells the item -/
theorem St.find (x : St w Ld pre W NA S D R RR items p b last) {it : Itm} (hit : it ∈ items) : items.find? (fun j => decide (j.dat.num = it.dat.num)) = some it := by
  cases h : items.find? (fun j => decide (j.dat.num = it.dat.num)) with
  | none => exact absurd (by simp) ((List.find?_eq_none.mp h) it hit)
  | some j =>
    have h1 := List.mem_of_find?_eq_some h
    have h2 := List.find?_some h
    rw [x.nums j h1 it hit (by simpa using h2)]
theorem addKey_nodup {ks : List Int} {k : Int} (h : ks.Nodup) : (addKey ks k).Nodup := by
  unfold addKey
  split
  · exact h
  · rename_i hk
    rw [List.nodup_append]
    exact ⟨h, by simp, fun a ha b hb e => by simp at hb; subst hb; subst e; exact hk ha⟩
theorem addKey_all {P : Int → Prop} {ks : List Int} {k : Int} (h : ∀ x ∈ ks, P x) (hk : P k) : ∀ x ∈ addKey ks k, P x := by
  unfold addKey
  split
  · exact h
  · intro x hx
    rcases List.mem_append.mp hx with hx | hx
    · exact h x hx
    · simp at hx; subst hx; exact hk
theorem addKeys_both {P : Int → Prop} : ∀ (l ks : List Int), (∀ x ∈ l, P x) → ks.Nodup → (∀ x ∈ ks, P x) → (l.foldl addKey ks).Nodup ∧ ∀ x ∈ l.foldl addKey ks, P x
  | [], _, _, h, h2 => ⟨h, h2⟩
  | k :: r, ks, hl, h, h2 => addKeys_both r (addKey ks k) (fun x hx => hl x (List.mem_cons_of_mem _ hx)) (addKey_nodup h) (addKey_all h2 (hl k List.mem_cons_self))
theorem keysFrom_both {P : Int → Prop} : ∀ (items : List Itm) (ks : List Int), (∀ i ∈ items, ∀ x ∈ i.cells, P x) → ks.Nodup → (∀ x ∈ ks, P x) →
    (items.foldl (fun ks it => if it.dat.on then it.cells.foldl addKey ks else ks) ks).Nodup ∧ ∀ x ∈ items.foldl (fun ks it => if it.dat.on then it.cells.foldl addKey ks else ks) ks, P x
  | [], _, _, h, h2 => ⟨h, h2⟩
  | i :: r, ks, hl, h, h2 => by
    rw [List.foldl_cons]
    have := addKeys_both i.cells ks (hl i List.mem_cons_self) h h2
    split
    · exact keysFrom_both r _ (fun j hj => hl j (List.mem_cons_of_mem _ hj)) this.1 this.2
    · exact keysFrom_both r _ (fun j hj => hl j (List.mem_cons_of_mem _ hj)) h h2
theorem St.keys (x : St w Ld pre W NA S D R RR items p b last) : (keysOf items).length < 64 := by
  obtain ⟨h1, h2⟩ := keysFrom_both (P := fun c => 0 ≤ c ∧ c < 8) items [] (fun i hi => (x.good i hi).cel) List.nodup_nil (by simp)
  have h3 : ((keysOf items).map Int.toNat).length ≤ (List.range 8).length := by
    refine List.Nodup.length_le_of_subset (List.pairwise_map.mpr (h1.imp_of_mem fun {a b} ha hb e => ?_)) fun n hn => ?_
    · have a0 := (h2 a ha).1
      have b0 := (h2 b hb).1
      intro q
      apply e
      rw [← Int.toNat_of_nonneg a0, ← Int.toNat_of_nonneg b0, q]
    · obtain ⟨c, hc, rfl⟩ := List.mem_map.mp hn
      exact List.mem_range.mpr ((Int.toNat_lt (h2 c hc).1).mpr (h2 c hc).2)
  rw [List.length_map, List.length_range] at h3
  omega
end
noncomputable def upd1 (x : Str) (v : Option Value) (m : Str → Option Value) : Str → Option Value := fun y => if y = x then v else m y
theorem known1 {m m' : Str → Option Value} {x : Str} {v : Option Value} (e : m = m') (h : m x = v) : m = upd1 x v m' := by
  subst e
  funext y
  unfold upd1
  by_cases q : y = x
  · rw [if_pos q, q, h]
  · rw [if_neg q]
theorem map_known4 {m : Str → Option Value} {x1 x2 x3 x4 : Str} {v1 v2 v3 v4 : Option Value} (h1 : m x1 = v1) (h2 : m x2 = v2) (h3 : m x3 = v3) (h4 : m x4 = v4) :
    m = fun y => if y = x1 then v1 else if y = x2 then v2 else if y = x3 then v3 else if y = x4 then v4 else m y := known1 (known1 (known1 (known1 rfl h4) h3) h2) h1
theorem nin_cons {a b : Addr} {l : List Addr} (h : @Ne Nat a b) (k : a ∉ l) : a ∉ b :: l := fun q => (List.mem_cons.mp q).elim h k
theorem nin_nil {a : Addr} : a ∉ ([] : List Addr) := fun q => nomatch q
theorem ints_cons {vs : List Value} {a : Int} {r : List Int} (h : IntsAre vs (a :: r)) : ∃ t vs', vs = .int a t :: vs' ∧ IntsAre vs' r := by
  cases h with | cons _ t h1 => exact ⟨t, _, rfl, h1⟩
theorem ints_nil {vs : List Value} (h : IntsAre vs []) : vs = [] := by cases h; rfl
theorem bnd {l : List Int} {x z₀ : Int} {j : Nat} (h : ∃ z, l[j]? = some z ∧ 0 ≤ x ∧ x < z) (e : l[j]? = some z₀) : 0 ≤ x ∧ x < z₀ := by
  obtain ⟨z, e', h1, h2⟩ := h
  rw [e'] at e
  cases e
  exact ⟨h1, h2⟩
-- part Exc
section
variable {prog : Program} {M : Model} {A : Around} {R : Result → Shared → Prop} {h : Heap} {g : Array GenState} {d : Drawn} {t : Nat} {os : OsState}
variable {nm q : Str} {C N : Addr} {bs bm bmN : List Value} {hdct : Bool} {sn : List Str} {sub : List Value} {ab : Bool} {col : Option Bool} {dd : Option Addr} {k0 k1 k2 k3 k5 : Option Value} {newId inN : String}

/-- what the rest of a class's order tells of its base -/
structure TailIs (bm : List Value) : Prop where
  exc : bm.contains (.type "Exception") = true
  base : bm.contains (.type "BaseException") = true
  noAttr : bm.contains (.type "AttributeError") = false
  noName : bm.contains (.type "NameError") = false

theorem xc_check_new (Fn : ExcBaseFacts "Exception" newId inN bmN) (T : TailIs bm) {rs : List Value} {Q : Unit → Shared → Prop} (hC : h.get? C = some (excClassObj nm q C N bs bm hdct sn sub ab col dd k0 k1 k2 k3 k5 newId))
    (hq : Q () ⟨h, g, d, t, os⟩) : wpAny M A (checkBuiltinCall newId ⟨.ref C :: rs, []⟩) Q E ⟨h, g, d, t, os⟩ :=
  wpAny_check_new_subU Fn T.exc .base hC hq

theorem xc_new (Fn : ExcBaseFacts "Exception" newId inN bmN) (T : TailIs bm) {rs : List Value} (hC : h.get? C = some (excClassObj nm q C N bs bm hdct sn sub ab col dd k0 k1 k2 k3 k5 newId))
    (hq : R (.ok (.ret (.ref (h.objs.size + 1)))) ⟨(h.push { cls := .type "tuple", data := .seq rs.toArray }).push
      { cls := .ref C, data := .fields #[.ref h.objs.size, .none, .none, .none, .bool false, .none] }, g, d, t, os⟩) (hrest : rs.length ≤ sizeLine) :
    codeAny (model prog w) A (.builtin newId ⟨.ref C :: rs, []⟩) R ⟨h, g, d, t, os⟩ := by
  have hends := Fn.ends
  have hcB : (Value.ref C :: bm).contains (.type "Exception") = true := by rw [List.contains_cons, T.exc, Bool.or_true]
  have hcA : (Value.ref C :: bm).contains (.type "AttributeError") = false := by rw [List.contains_cons, T.noAttr]; rfl
  have hcN : (Value.ref C :: bm).contains (.type "NameError") = false := by rw [List.contains_cons, T.noName]; rfl
  refine codeAny_builtinAt Fn.entry ?_
  unfold Builtin.«BaseException.__new__»
  refine PySem.wpAt_bind ?_
  show PySem.wpAt _ _ _ (stack >>= _) _ _ _
  refine PySem.wpAt_bind (PySem.wpAt_stack fun p below => PySem.wpAt_of_wpAny ?_)
  wp_walk
  refine PySem.wpAt_of_wpAny ?_
  rw [Fn.owner]
  repeat (first | with_reducible refine wpAny_madeHere_exc Fn.canon hC ?_ | with_reducible refine wpAny_loadPart_at hC ?_ | (with_reducible refine wpAny_isSubtype_exc hC ?_; first | rw [hcB] | rw [hcA] | rw [hcN]) | wp_step)
  show R _ _
  rw [Heap.size_push]
  exact hq

/-- an own exception's making: its tuple of arguments and itself, then its `__init__`, wherever in its order that lies -/
theorem xc_type_call (Fn : ExcBaseFacts "Exception" newId inN bmN) (T : TailIs bm) {rs : List Value} {fI : Addr} {oI : Obj} {Q : Fin → Shared → Prop}
    (hC : h.get? C = some (excClassObj nm q C N bs bm hdct sn sub ab col dd k0 k1 k2 k3 k5 newId)) (hi : Looks (model prog w) h (typeLookup (.ref C) "__init__") (some (.ref fI)))
    (hfI : h.get? fI = some oI) (hfc : oI.cls = .type "function") (hrest : rs.length ≤ sizeLine)
    (hq : ∀ h' e, Heap.MadeExcOf h h' e (.ref C) rs →
      wpAny (model prog w) A (call (.ref fI) (.ref e :: rs)) (fun r s' => r = .none ∧ Q (.done (.ret (.ref e))) s') E ⟨h', g, d, t, os⟩) :
    wpAny (model prog w) A (Builtin.«type.__call__» ⟨.ref C :: rs, []⟩) Q E ⟨h, g, d, t, os⟩ := by
  repeat (first | with_reducible refine wpAny_loadPart_at hC ?_ | with_reducible refine wpAny_madeBy_exc hC ?_ | wp_step)
  refine codeAny_call_builtin_code (Code.quiet_builtin _ Fn.quiet) (xc_check_new Fn T hC ?_)
  refine xc_new Fn T hC ?_ hrest
  show wpAny _ _ _ _ _ _
  have hC₁ := Heap.get?_push_of_some { cls := .ref C, data := .fields #[.ref h.objs.size, .none, .none, .none, .bool false, .none] }
    (Heap.get?_push_of_some { cls := .type "tuple", data := .seq rs.toArray } hC)
  have hfI₁ := Heap.get?_push_of_some { cls := .ref C, data := .fields #[.ref h.objs.size, .none, .none, .none, .bool false, .none] }
    (Heap.get?_push_of_some { cls := .type "tuple", data := .seq rs.toArray } hfI)
  have hget : ((h.push { cls := .type "tuple", data := .seq rs.toArray }).push
      { cls := .ref C, data := .fields #[.ref h.objs.size, .none, .none, .none, .bool false, .none] }).get? (h.objs.size + 1) = some
      { cls := .ref C, data := .fields #[.ref h.objs.size, .none, .none, .none, .bool false, .none] } := by heap_get
  have hcC : (Value.ref C :: bm).contains (.ref C) = true := by simp
  unfold isInstance
  repeat (first | with_reducible refine wpAny_loadPart_at hget ?_ | (with_reducible refine wpAny_isSubtype_exc hC₁ ?_; rw [hcC]) | wp_step)
  show wpAny _ _ (typeLookup (.ref C) _) _ _ _
  refine hi _ _ _ _ (fun b o hb => Heap.get?_push_of_some _ (Heap.get?_push_of_some _ hb)) ?_
  refine wpAny_holding (wpAny_bind ?_)
  unfold bindSpecial
  refine wpAny_bind (wpAny_typeOf (T := "function") ⟨_, hfI₁, hfc⟩ ?_)
  rw [if_pos (by decide)]
  refine wpAny_pure (wpAny_bind (wpAny_mono (hq _ (h.objs.size + 1) ⟨fun b o hb => Heap.get?_push_of_some _ (Heap.get?_push_of_some _ hb), Heap.get?_none_of_le (Nat.le_succ _), h.objs.size, hget, Heap.get?_none_of_le (Nat.le_refl _), ?_⟩) (fun r s' hr => ?_) fun _ _ x => x))
  · exact Heap.get?_push_of_some _ (Heap.get?_push_at rfl rfl)
  · obtain ⟨rfl, hQ⟩ := hr
    wp_walk
    exact hQ

theorem xc_call (Fn : ExcBaseFacts "Exception" newId inN bmN) (T : TailIs bm) {rs : List Value} {fI : Addr} {oI : Obj}
    (hC : h.get? C = some (excClassObj nm q C N bs bm hdct sn sub ab col dd k0 k1 k2 k3 k5 newId)) (hi : Looks (model prog w) h (typeLookup (.ref C) "__init__") (some (.ref fI)))
    (hfI : h.get? fI = some oI) (hfc : oI.cls = .type "function") (hrest : rs.length ≤ sizeLine)
    (hq : ∀ h' e, Heap.MadeExcOf h h' e (.ref C) rs →
      wpAny (model prog w) (A.under (.builtin "type.__call__" ⟨.ref C :: rs, []⟩)) (call (.ref fI) (.ref e :: rs)) (fun r s' => r = .none ∧ Q (.ref e) s') E ⟨h', g, d, t, os⟩) :
    wpAny (model prog w) A (call (.ref C) rs) Q E ⟨h, g, d, t, os⟩ := by
  have f1 := tc_lookup
  have f2 := tc_bind (.ref C)
  have hT : (⟨h, g, d, t, os⟩ : Shared).TypeIs (.ref C) "type" := ⟨_, hC, rfl⟩
  refine wpAny_call (codeAny_of_tree ?_)
  show wpAny _ _ (callAny (.ref C) _) _ _ _
  repeat (any_goals (first | assumption | with_reducible refine wpAny_loadPart_at hC ?_ | wp_step))
  refine ⟨rfl, ?_⟩
  refine codeAny_call_builtin_at (Code.quiet_builtin _ (by decide +kernel)) entry_typeCall (wpAny_check_type_call_sub hC (xc_type_call Fn T hC hi hfI hfc hrest fun h' e hm => ?_))
  exact hq h' e hm
end
-- part Exc2
noncomputable abbrev excO (C : Addr) (dd : Option Addr) (vs : Array Value) : Obj := { cls := .ref C, dict := dd, data := .fields vs }
section
variable {prog : Program} {A : Around} {R : Result → Shared → Prop} {K : Frag} {C e D : Addr} {vs : Array Value} {dd : Option Addr} {cd : ClassData} {name : Str} {v : Value} {tk : Tok}
noncomputable abbrev excMro (C : Addr) : List Value := [.ref C, .ref 31, .type "Exception", .type "BaseException", .type "object"]

theorem xc_type {M : Model} {h : Heap} {o : Obj} (he : h.get? e = some o) (hc : o.cls = .ref C) : Looks M h (typeOf (.ref e)) (.ref C) := by
  have := (Looks.ld (M := M) (part := some headPart) he).andThen (b := Value.ref C) (f := fun o => pure o.cls) (by rw [hc]; exact .now)
  exact this

theorem xc_passes (self : Value) : refuseLoop self "__setattr__" (excMro C) = pure () := by
  rw [refuseLoop_ref, refuseLoop_ref]
  exact PySem.F.store_Exception.passes self

theorem xc_setattr {Q : Unit → Shared → Prop} {o : Obj} (X : K.In s.heap) (he : s.heap.get? e = some o) (hec : o.cls = .ref C)
    (hs : findIn K (.ref C) "__setattr__" = some (some (.builtin "object.__setattr__"))) (hc : clsIn K C = some cd) (hm : cd.mro = excMro C) (ht : findIn K (.ref C) name = some none)
    (h : wpAny (model prog w) A.in1 (Builtin.ObjectAttr.storeInOwnDict (.ref e) (.ref C) (.str name s.toks) name v false)
      (fun fin s' => match fin with | .done (.ret _) => Q () s' | _ => False) (fun e s' => E e s') { s with toks := s.toks + 1 }) :
    wpAny (model prog w) A (setAttr (.ref e) name v) Q E s := by
  have SF := PySem.F.store_object
  have t0 : Looks (model prog w) s.heap (typeOf (.ref e)) (.ref C) := xc_type he hec
  refine wpAny_bind (wpAny_mkText (wpAny_bind (wpAny_bind (wpAny_bind (t0 _ _ _ _ (fun _ _ e => e) (looks_findIn X hs _ _ _ _ (fun _ _ e => e) (wpAny_holding ?_)))))))
  rw [SF.slot.bind]
  refine wpAny_bind (wpAny_pure (wpAny_bind (wpAny_call ?_)))
  have sub : Looks (model prog w) s.heap (isInstance (.ref e) (.type "object")) true := t0.andThen (looks_mroIn X (by unfold mroIn; rw [hc, Option.bind_some, if_neg (by rw [hm]; simp), hm]; simp))
  refine codeAny_call_builtin SF.slot.plain SF.entry (@check_slot (model prog w) _ _ { s with toks := s.toks + 1 } "object.__setattr__" "object" "__setattr__" (.ref e) [.str name s.toks, v] [] _ SF.kind SF.split sub (SF.args (.ref e) (.str name s.toks) v) ?_)
  have hmr : Looks (model prog w) s.heap (mroOf (.ref C)) cd.mro := (looks_clsIn X hc).andThen .now
  show wpAny _ _ (Builtin.«object.__setattr__» ⟨[.ref e, .str name s.toks, v], []⟩) _ _ _
  rw [osa_eq, refuse_eq]
  refine wpAny_bind (wpAny_bind (t0.here (s := { s with toks := s.toks + 1 }) (wpAny_bind (hmr.here (s := { s with toks := s.toks + 1 }) ?_))))
  rw [hm, xc_passes]
  refine wpAny_pure (wpAny_bind (t0.here (s := { s with toks := s.toks + 1 }) (wpAny_bind ((looks_findIn X ht).here (s := { s with toks := s.toks + 1 }) (wpAny_bind (wpAny_pure ?_))))))
  dsimp only
  refine wpAny_mono h (fun fin s' z => ?_) fun _ _ z => z
  rcases fin with (v | _ | _ | _) | _ <;> first | exact z.elim | exact wpAny_pure (wpAny_pure z)
end
section
variable {prog : Program} {A : Around} {R : Result → Shared → Prop} {K : Frag} {C e D : Addr} {vs : Array Value} {dd : Option Addr} {cd : ClassData} {name : Str} {v : Value} {tk : Tok} {pre post : List (Addr × Obj)} {es es' : List DictEntry} {n n' : Nat}
theorem xc_storeIn {Q : Fin → Shared → Prop} (F : Fr h₀ L s.heap m) (N : News h₀ L s.heap (pre ++ (D, dictOf es n) :: post)) (hl : es.all (fun e => !e.refKey) = true)
    (h1 : ∀ p ∈ pre, p.1 ≠ D) (h2 : ∀ p ∈ post, p.1 ≠ D)
    (e1 : (putL name (PyData.keyHash w.params name) (.str name s.toks) v es, putN name es n) = (es', n')) (hz : es'.length ≤ 1000)
    (h : ∀ h', Fr h₀ L h' m → News h₀ L h' (pre ++ (D, dictOf es' n') :: post) → Q (.done (.ret .none)) { s with heap := h', toks := s.toks + 1 }) :
    wpAny (model prog w) A (Builtin.ObjectAttr.storeInDict D (.str name tk) name v) Q E s := by
  refine hold fun H9 hH9 => ?_
  obtain ⟨a1, a2⟩ := Prod.mk.inj e1
  have e2 : Obj.putName name (PyData.keyHash w.params name) (.str name s.toks) v (dictOf es n) = dictOf es' n' := by rw [putName_dict, a1, a2]
  obtain ⟨U1, U2⟩ := news_upd (f := Obj.putName name (PyData.keyHash w.params name) (.str name s.toks) v) F N h1 h2 e2 rfl
  refine hH9 ?_
  clear hH9 H9
  have D0 := (N (D, dictOf es n) (by simp)).1
  have D1 := (U2 (D, dictOf es' n') (by simp)).1
  unfold Builtin.ObjectAttr.storeInDict Builtin.ObjectAttr.newKeyGuard
  refine wpAny_bind (wpAny_pure (wpAny_bind ?_))
  unfold nsSet
  refine wpAny_bind (wpAny_bind (wpAny_askSetting (wpAny_pure (wpAny_bind (wpAny_mkText (wpAny_bind (wpAny_loadPart D0 ?_)))))))
  have c : (!es.toArray.any (·.key.isStr name) && es.toArray.any (·.refKey)) = false := by
    have : es.any (·.refKey) = false := by
      rw [List.any_eq_false]; intro x hx
      have := List.all_eq_true.mp hl x hx
      simpa using this
    rw [← Array.any_toList, ← Array.any_toList]
    simp only [this, Bool.and_false]
  dsimp only
  rw [aRefKeyMayBeTheName_at, c]
  refine wpAny_updatePart D0 ?_
  refine wpAny_bind (wpAny_lookBehind D1 (pastItsLine_dict (by rw [List.size_toArray, sizeLine_eq]; omega)) ?_)
  exact wpAny_pure (h _ U1 U2)

/-- the first attribute of an exception: its dict is made -/
theorem xc_set0 {Q : Unit → Shared → Prop} (F : Fr h₀ L s.heap m) (N : News h₀ L s.heap ((e, excO C none vs) :: rest)) (X : K.In s.heap) (hne : ∀ p ∈ rest, p.1 ≠ e)
    (hs : findIn K (.ref C) "__setattr__" = some (some (.builtin "object.__setattr__"))) (hc : clsIn K C = some cd) (hm : cd.mro = excMro C) (hd : cd.hasDict = true) (ht : findIn K (.ref C) name = some none)
    (h : ∀ h' D, Fr h₀ L h' m → News h₀ L h' ((D, dictOf [⟨PyData.keyHash w.params name, .str name (s.toks + 1), v⟩] 1) :: (e, excO C (some D) vs) :: rest) → e < D → (∀ p ∈ rest, p.1 < D) → Q () { s with heap := h', toks := s.toks + 2 }) :
    wpAny (model prog w) A (setAttr (.ref e) name v) Q E s := by
  have he := (N _ List.mem_cons_self).1
  refine xc_setattr X he rfl hs hc hm ht ?_
  refine hold fun H9 hH9 => ?_
  obtain ⟨hp, g, dr, t, os⟩ := s
  refine hH9 ?_
  clear hH9 H9
  dsimp only at F N X he h ⊢
  have hlt : ∀ p ∈ rest, p.1 < hp.objs.size := fun p q => Heap.lt_size (N p (List.mem_cons_of_mem _ q)).1
  have hel : e < hp.objs.size := Heap.lt_size he
  have F1 := F.push emptyDict
  have N1 := N.push F emptyDict
  have hxe : hp.objs.size ≠ e := Nat.ne_of_gt hel
  obtain ⟨F2, N2⟩ := news_upd (pre := [(hp.objs.size, emptyDict)]) (post := rest) (f := fun o => { cls := o.cls, dict := some hp.objs.size, data := o.data, slots := o.slots }) (o' := excO C (some hp.objs.size) vs) F1 N1 (by intro p q; rw [List.mem_singleton] at q; subst q; exact hxe) hne rfl rfl
  unfold Builtin.ObjectAttr.storeInOwnDict ownStreamTells Builtin.ObjectAttr.ownDictForStores
  refine wpAny_bind (wpAny_pure (wpAny_bind ?_))
  dsimp only
  unfold instanceDict
  refine wpAny_bind (wpAny_loadPart he ?_)
  refine wpAny_bind ((looks_clsIn X hc).here ?_)
  rw [hd, if_neg (by decide)]
  dsimp only
  rw [if_neg (by simp [typeHasDict])]
  refine wpAny_bind (wpAny_alloc' (wpAny_bind (wpAny_update' (N1 _ (List.mem_cons_of_mem _ List.mem_cons_self)).1 ?_)))
  unfold dictMade
  refine wpAny_pure ?_
  dsimp only
  refine xc_storeIn (pre := []) (es := []) (n := 0) F2 N2 rfl (by simp) (fun p q => ?_) rfl (by simp [putL]) fun h' F3 N3 => ?_
  · rcases List.mem_cons.mp q with rfl | q
    · exact Ne.symm hxe
    · exact Nat.ne_of_lt (hlt p q)
  · exact h h' _ F3 N3 hel hlt

theorem xc_set1 {Q : Unit → Shared → Prop} (F : Fr h₀ L s.heap m) (N : News h₀ L s.heap ((D, dictOf es n) :: (e, excO C (some D) vs) :: rest)) (X : K.In s.heap) (hDe : ∀ p ∈ (e, excO C (some D) vs) :: rest, p.1 ≠ D) (hl : es.all (fun e => !e.refKey) = true)
    (hs : findIn K (.ref C) "__setattr__" = some (some (.builtin "object.__setattr__"))) (hc : clsIn K C = some cd) (hm : cd.mro = excMro C) (hd : cd.hasDict = true) (ht : findIn K (.ref C) name = some none)
    (e1 : (putL name (PyData.keyHash w.params name) (.str name (s.toks + 1)) v es, putN name es n) = (es', n')) (hz : es'.length ≤ 1000)
    (h : ∀ h', Fr h₀ L h' m → News h₀ L h' ((D, dictOf es' n') :: (e, excO C (some D) vs) :: rest) → Q () { s with heap := h', toks := s.toks + 2 }) :
    wpAny (model prog w) A (setAttr (.ref e) name v) Q E s := by
  have he := (N _ (List.mem_cons_of_mem _ List.mem_cons_self)).1
  refine xc_setattr X he rfl hs hc hm ht ?_
  unfold Builtin.ObjectAttr.storeInOwnDict ownStreamTells Builtin.ObjectAttr.ownDictForStores
  refine wpAny_bind (wpAny_pure (wpAny_bind ?_))
  dsimp only
  unfold instanceDict
  refine wpAny_bind (wpAny_loadPart he ?_)
  refine wpAny_bind ((looks_clsIn X hc).here (s := { s with toks := s.toks + 1 }) ?_)
  rw [hd, if_neg (by decide)]
  dsimp only
  refine wpAny_pure ?_
  exact xc_storeIn (s := { s with toks := s.toks + 1 }) (pre := []) F N hl (by simp) hDe e1 hz fun h' F3 N3 => h h' F3 N3
end
/-- an exception's own fields: its arguments, no way yet, no cause and no context -/
noncomputable abbrev exv (t : Addr) : Array Value := #[.ref t, .none, .none, .none, .bool false, .none]
section
variable {prog : Program} {A : Around} {K : Frag} {C e D t : Addr}
variable {nm q : Str} {N0 : Addr} {bs bm bmN : List Value} {hdct : Bool} {sn : List Str} {sub : List Value} {ab : Bool} {col : Option Bool} {cdd : Option Addr} {k0 k1 k2 k3 k5 : Option Value} {newId nid : String}
set_option maxHeartbeats 4000000 in
theorem xc_init (Fn : ExcBaseFacts "Exception" nid "Exception.__init__" bmN) (F : Fr h₀ L s.heap m) (N : News h₀ L s.heap ((e, excO C none (exv t)) :: rest)) (hC : s.heap.get? C = some (excClassObj nm q C N0 bs bm hdct sn sub ab col cdd k0 k1 k2 k3 k5 newId)) (T : TailIs bm)
    (hne : ∀ p ∈ rest, p.1 ≠ e) {rs : List Value} (hrs : rs.length ≤ sizeLine)
    (h : ∀ h' t', Fr h₀ L h' m → News h₀ L h' ((e, excO C none (exv t')) :: rest) → Q .none { s with heap := h' }) :
    wpAny (model prog w) A (call (.builtin "Exception.__init__") (.ref e :: rs)) Q E s := by
  refine hold fun H9 hH9 => ?_
  obtain ⟨hp, g, dr, tk, os⟩ := s
  refine hH9 ?_
  clear hH9 H9
  dsimp only at F N hC h ⊢
  have he := (N _ List.mem_cons_self).1
  have hcB : (Value.ref C :: bm).contains (.type "Exception") = true := by rw [List.contains_cons, T.exc, Bool.or_true]
  have hshort := Fn.noStar
  refine wpAny_call (codeAny_call_builtin Fn.init.plain Fn.initEntry ?_)
  simp only [checkBuiltinCall, Fn.initKind, Fn.initSplit, Fn.initRow]
  repeat (first | (with_reducible refine wpAny_loadPart_at he ?_) | with_reducible refine wpAny_loadPart_at hC ?_ | (with_reducible refine wpAny_isSubtype_exc hC ?_; rw [hcB]) | wp_step)
  refine wpAny_onRaise ?_
  rw [show ∀ (a b : String) (n : Nat), Bind.check ⟨.positional, "*", "Exception", .self, [⟨"args", .varPos, false⟩]⟩ a b n (List.map (fun x => x.fst) ({ pos := Value.ref e :: rs } : Args).kw) = pure () from
    fun a b n => check_star_args _ _ _ _ _ _]
  refine wpAny_pure ?_
  have N1 := N.push F { cls := .type "tuple", data := .seq rs.toArray }
  have F1 := F.push { cls := .type "tuple", data := .seq rs.toArray }
  obtain ⟨F2, N2⟩ := news_upd (pre := [(hp.objs.size, { cls := .type "tuple", data := .seq rs.toArray })]) (post := rest) (f := Obj.mapFields (·.setIfInBounds 0 (Value.ref hp.objs.size))) (o' := excO C none (exv hp.objs.size)) F1 N1 (by intro p z; rw [List.mem_singleton] at z; subst z; exact Nat.ne_of_gt (Heap.lt_size he)) hne rfl rfl
  wp_walk
  exact h _ _ F2 (fun p hp => N2 p (List.mem_append_right _ hp))
end
section
variable {prog : Program} {A : Around} {K : Frag} {C e D t : Addr} {vs : Array Value} {cd : ClassData} {es : List DictEntry} {n : Nat} {name : Str} {v : Value}
theorem xc_get {expr : Bool} {attr : Option Value} {o : Obj} (X : K.In s.heap) (he : s.heap.get? e = some o) (hec : o.cls = .ref C) (hed : o.dict = some D) (hef : o.data = .fields vs) (hD : s.heap.get? D = some (dictOf es n))
    (hg : findIn K (.ref C) "__getattribute__" = some (some (.builtin "BaseException.__getattribute__"))) (hk : findIn K (.ref C) "__getattr__" = some none)
    (hc : clsIn K C = some cd) (hm : cd.mro = excMro C) (hh : hasDictIn K C = true)
    (ha : findIn K (.ref C) name = some attr) (hn : noGet K attr = true) (hl : getL name es = some (some v)) (hv : handedIn v = true) (h : Q v { s with toks := s.toks + 1 }) :
    wpAny (model prog w) A (getAttr (.ref e) name expr) Q E s := by
  have I : InstAt s.heap e o C (some (dictOf es n)) := ⟨he, hec, by unfold notCls; rw [hef], by rw [hed]; exact hD⟩
  have ht := I.type (M := model prog w)
  have hf : findObj K C (some (dictOf es n)) name = some (.value v) := findObj_own hh ha hn hl
  have hfi := looks_find (M := model prog w) X I hf
  have sub : Looks (model prog w) s.heap (isInstance (.ref e) (.type "BaseException")) true := ht.andThen (looks_mroIn X (by unfold mroIn; rw [hc, Option.bind_some, if_neg (by rw [hm]; simp), hm]; simp))
  have GA := PySem.F.attr_Exception.ga
  refine wpAny_bind (wpAny_mkText (wpAny_holding (wpAny_bind (ht _ _ _ _ (fun _ _ e => e) (wpAny_bind (looks_findIn X hg _ _ _ _ (fun _ _ e => e) ?_))))))
  dsimp only
  rw [show (onTheHeap (Value.ref C) && Value.builtin "BaseException.__getattribute__" == Value.builtin "object.__getattribute__") = false from by rw [show (Value.builtin "BaseException.__getattribute__" == Value.builtin "object.__getattribute__") = false from by decide +kernel, Bool.and_false], if_neg (by decide)]
  refine wpAny_bind ((looks_hook X (mc := .ref C) (r := none) (by rw [if_pos (by rfl)]; exact hk)) _ _ _ _ (fun _ _ e => e) (wpAny_bind (wpAny_attempt (wpAny_holding ?_))))
  unfold callGetattribute
  rw [show (expr && onTheHeap (Value.builtin "BaseException.__getattribute__")) = false from Bool.and_false _, if_neg (by decide)]
  unfold boundAndCalled
  rw [GA.bind]
  refine wpAny_bind (wpAny_pure ?_)
  show wpAny _ _ (call (.builtin "BaseException.__getattribute__") [.ref e, .str name s.toks]) _ _ _
  refine wpAny_call (codeAny_call_builtin GA.plain PySem.F.entry_bexc_ga ?_)
  refine @check_slot (model prog w) _ _ { s with toks := s.toks + 1 } "BaseException.__getattribute__" "BaseException" "__getattribute__" (.ref e) [.str name s.toks] [] _ (by decide +kernel) (by decide +kernel) sub (PySem.F.args_bexc_ga _ _) ?_
  refine wpAny_bind (wpAny_pure (wpAny_bind (wpAny_pure (wpAny_bind (ht.here (s := { s with toks := s.toks + 1 }) (wpAny_bind (hfi.here (s := { s with toks := s.toks + 1 }) (wpAny_pure ?_))))))))
  dsimp only
  rw [handedOut_of hv]
  exact wpAny_pure h
end
-- part C2
local macro_rules | `(tactic| k_lt $h) => `(tactic| ((replace $h := allLt_of $h); k_extra "lt"))
theorem words_C2 : True := by
  k_with_none
  k_with "spliced" => (refine args_nil ?_; (try dsimp only [List.cons_append, List.nil_append]))
  k_with "mem" => ((refine memL ?_); with_reducible assumption)
  k_with "all" => (first | with_reducible assumption | exact Mine.neAll (by with_reducible assumption) | fail "mine")
  k_with "put" => (first | exact put_last | exact put_rows | exact put_cond | exact put_ign | exact put_hits | exact put_on | exact put_trb | fail "mine")
  k_with "room" => (first | exact Mine.rm 0 (by exact rfl) (by with_reducible assumption) (by exact rfl) | exact Mine.rm 1 (by exact rfl) (by with_reducible assumption) (by exact rfl) | exact Mine.rm 2 (by exact rfl) (by with_reducible assumption) (by exact rfl) | exact Mine.rm 3 (by exact rfl) (by with_reducible assumption) (by exact rfl) | exact Mine.rm 4 (by exact rfl) (by with_reducible assumption) (by exact rfl) | (simp only [depth_under_make, depth_under_kw, depth_in1, depth_deeper, recursionLimit]; omega))
  k_with "size" => (first | with_reducible assumption | with_reducible exact Mine.sz0 | with_reducible exact Mine.sz1 | with_reducible exact Mine.sz2 | with_reducible exact Mine.sz3 | with_reducible exact Mine.sz4 | with_reducible exact Mine.sz5 | with_reducible exact Mine.sz6 | exact Mine.sz_lt (by with_reducible assumption) (by exact rfl) | exact Mine.sz_le (by with_reducible assumption) (by exact rfl) | fail "mine")
  k_with "lt" => ((rename AllLt _ _ => hlt9); (try dsimp only [AllLt] at hlt9); (try simp only [and_true] at hlt9); (try first | (have hz8 := AllLt.lt (hlt9)) | (have hz8 := AllLt.lt (hlt9).2) | (have hz8 := AllLt.lt (hlt9).2.2) | (have hz8 := AllLt.lt (hlt9).2.2.2) | (have hz8 := AllLt.lt (hlt9).2.2.2.2) | (have hz8 := AllLt.lt (hlt9).2.2.2.2.2) | (have hz8 := AllLt.lt (hlt9).2.2.2.2.2.2) | (have hz8 := AllLt.lt (hlt9).2.2.2.2.2.2.2) | (have hz8 := AllLt.lt (hlt9).2.2.2.2.2.2.2.2) | (have hz8 := AllLt.lt (hlt9).2.2.2.2.2.2.2.2.2) | (have hz8 := AllLt.lt (hlt9).2.2.2.2.2.2.2.2.2.2) | (have hz8 := AllLt.lt (hlt9).2.2.2.2.2.2.2.2.2.2.2) | (have hz8 := AllLt.lt (hlt9).2.2.2.2.2.2.2.2.2.2.2.2)))
  k_with "ltc" => (first | with_reducible assumption | exact And.left (by with_reducible assumption) | exact And.left (And.right (by with_reducible assumption)) | exact And.left (And.right (And.right (by with_reducible assumption))) | exact And.left (And.right (And.right (And.right (by with_reducible assumption)))) | exact And.left (And.right (And.right (And.right (And.right (by with_reducible assumption))))) | exact And.left (And.right (And.right (And.right (And.right (And.right (by with_reducible assumption)))))) | exact And.left (And.right (And.right (And.right (And.right (And.right (And.right (by with_reducible assumption))))))) | exact And.left (And.right (And.right (And.right (And.right (And.right (And.right (And.right (by with_reducible assumption)))))))) | exact And.left (And.right (And.right (And.right (And.right (And.right (And.right (And.right (And.right (by with_reducible assumption))))))))) | exact And.left (And.right (And.right (And.right (And.right (And.right (And.right (And.right (And.right (And.right (by with_reducible assumption)))))))))) | exact And.right (by with_reducible assumption) | exact And.right (And.right (by with_reducible assumption)) | exact And.right (And.right (And.right (by with_reducible assumption))) | exact And.right (And.right (And.right (And.right (by with_reducible assumption)))) | exact And.right (And.right (And.right (And.right (And.right (by with_reducible assumption))))) | exact And.right (And.right (And.right (And.right (And.right (And.right (by with_reducible assumption)))))) | exact And.right (And.right (And.right (And.right (And.right (And.right (And.right (by with_reducible assumption))))))) | exact And.right (And.right (And.right (And.right (And.right (And.right (And.right (And.right (by with_reducible assumption)))))))) | exact And.right (And.right (And.right (And.right (And.right (And.right (And.right (And.right (And.right (by with_reducible assumption))))))))) | fail "mine")
  k_with "ne" => (first | k_extra "ltc" | ((with_reducible refine' Ne.symm ?_); k_extra "ltc") | ((with_reducible refine' Nat.ne_of_gt ?_); k_extra "ltc") | ((with_reducible refine' Nat.ne_of_lt ?_); k_extra "ltc") | ((with_reducible refine' Nat.ne_of_gt (Nat.lt_succ_of_lt ?_)); k_extra "ltc") | fail "mine")
  k_with "omega" => (first | k_extra "ltc" | with_reducible decide | k_extra "ne" | k_extra "bd" | fail "mine")
  k_with "bd" => (first | with_reducible exact Mine.p7 | ((with_reducible refine' Mine.o1 ?oh ?oe); (case oh => with_reducible assumption); (case oe => exact rfl)) | ((with_reducible refine' Mine.o2 ?oh ?oe); (case oh => with_reducible assumption); (case oe => exact rfl)) | ((with_reducible refine' Mine.o3 ?oh ?oe); (case oh => with_reducible assumption); (case oe => exact rfl)) | ((with_reducible refine' Mine.o4 ?oh ?oe); (case oh => with_reducible assumption); (case oe => exact rfl)) | ((with_reducible refine' Mine.o5 ?oh ?oe); (case oh => with_reducible assumption); (case oe => exact rfl)) | ((with_reducible refine' Mine.o6 ?oh ?oe); (case oh => with_reducible assumption); (case oe => exact rfl)) | ((with_reducible refine' Mine.o7 ?oh ?oe); (case oh => with_reducible assumption); (case oe => exact rfl)) | ((with_reducible refine' Mine.p1 ?oh ?oe); (case oh => with_reducible assumption); (case oe => exact rfl)) | ((with_reducible refine' Mine.p4 ?oh ?oe); (case oh => with_reducible assumption); (case oe => exact rfl)) | ((with_reducible refine' Mine.p6 ?oh ?oe); (case oh => with_reducible assumption); (case oe => exact rfl)) | ((with_reducible refine' Mine.r6 ?oh ?oe); (case oh => with_reducible assumption); (case oe => exact rfl)) | ((with_reducible refine' Mine.r13 ?oh ?oe); (case oh => with_reducible assumption); (case oe => exact rfl)) | ((with_reducible refine' Mine.r14 ?oh ?oe); (case oh => with_reducible assumption); (case oe => exact rfl)) | ((with_reducible refine' Mine.r15 ?oh ?oe); (case oh => with_reducible assumption); (case oe => exact rfl)) | ((with_reducible refine' Mine.r18 ?oh ?oe); (case oh => with_reducible assumption); (case oe => exact rfl)) | ((with_reducible refine' Mine.r19 ?oh ?oe); (case oh => with_reducible assumption); (case oe => exact rfl)) | ((with_reducible refine' Mine.r20 ?oh ?oe); (case oh => with_reducible assumption); (case oe => exact rfl)) | ((with_reducible refine' Mine.r21 ?oh ?oe); (case oh => with_reducible assumption); (case oe => exact rfl)) | ((with_reducible refine' Mine.o8 ?og ?oh ?oe); (case og => with_reducible assumption); (case oh => with_reducible assumption); (case oe => exact rfl)) | ((with_reducible refine' Mine.o9 ?og ?oh ?oe); (case og => with_reducible assumption); (case oh => with_reducible assumption); (case oe => exact rfl)) | ((with_reducible refine' Mine.p5 ?og ?oh ?oe); (case og => with_reducible assumption); (case oh => with_reducible assumption); (case oe => exact rfl)) | ((with_reducible refine' Mine.r5 ?og ?oh ?oe); (case og => with_reducible assumption); (case oh => with_reducible assumption); (case oe => exact rfl)) | ((with_reducible refine' Mine.r1 ?og ?oh); (case og => with_reducible assumption); (case oh => with_reducible assumption)) | ((with_reducible refine' Mine.r3 ?og ?oh); (case og => with_reducible assumption); (case oh => with_reducible assumption)) | ((with_reducible refine' Nat.le_trans ?og ?oh); (case og => with_reducible assumption); (case oh => with_reducible assumption)) | ((with_reducible refine' Mine.r22 ?oh); (case oh => with_reducible assumption)) | ((with_reducible refine' Mine.r23 ?oh); (case oh => with_reducible assumption)) | ((with_reducible refine' Mine.big_lo ?oh); (case oh => with_reducible assumption)) | ((with_reducible refine' Mine.big_hi ?oh); (case oh => with_reducible assumption)) | ((with_reducible refine' Mine.big_ten ?oh); (case oh => with_reducible assumption)) | ((with_reducible refine' Int.ne_of_gt ?_); k_extra "ltc") | ((with_reducible refine' Int.le_of_lt ?_); k_extra "ltc") | with_reducible exact Int.le_refl _ | with_reducible exact Nat.le_succ _ | with_reducible exact Nat.zero_add _ | fail "mine")
  k_with "call builtin:sorted" => ((k_here; (refine' sorted_led ?F ?N ?m ?i ?b ?_; (case F => k_asm); (case N => k_asm); (case m => k_mem); (case i => k_asm); (case b => k_asm); k_whole); intro wD' wvs' wc' wh' wF' wN' wl1' wi'; (try k_lt wl1'); (try dsimp only)))
  k_with "TurnG" => (first | ((with_reducible show TurnG _ _ _ _ _ _ _ (Flow.ret _) _); dsimp only [TurnG]) | ((with_reducible show TurnG _ _ _ _ _ _ _ Flow.brk _); dsimp only [TurnG]))
  k_with "exec Assign cons ListComp" => ((k_here; k_dflt (first
  | (refine LCt.Assign_ListComp_T (F₀ := by k_asm) (by rfl) (by with_unfolding_all rfl) (by with_unfolding_all rfl) (by decide) (by rfl) (by decide) (by rfl) (by rfl) (by rfl) ?_)
  | (refine LCg.Assign_ListComp_U (F₀ := by k_asm) (by rfl) (by with_unfolding_all rfl) (by with_unfolding_all rfl) (by decide) (by rfl) (by decide) (by rfl) (by rfl) (by rfl) ?_))))
  k_with "eval ListComp" => ((k_here; k_dflt (first
  | (refine LCt.ListComp_T (F₀ := by k_asm) (by with_unfolding_all rfl) (by decide) (by rfl) (by decide) (by rfl) ?_)
  | (refine LCg.ListComp_U (F₀ := by k_asm) (by with_unfolding_all rfl) (by decide) (by rfl) (by decide) (by rfl) ?_))))
  k_with "CompSrcT" => (fail "mine: by hand")
  k_with "CompSrc" => (fail "mine: by hand")
  k_with "call builtin:len" => ((k_here; k_dflt (refine' len_led ?N ?m ?b ?_; (case N => k_asm); (case m => k_mem); (case b => first | omega | ((simp only [sxs_size, rxs_size, List.size_toArray, List.length_map, Array.size_push]); omega)); k_whole)))
  k_with "compareOp In int ref" => ((k_here; k_dflt (refine' in_led ?N ?m ?i ?_; (case N => k_asm); (case m => k_mem); (case i => k_asm); k_whole)))
  k_with "compareOp NotIn int ref" => ((k_here; k_dflt (refine' notin_led ?N ?m ?i ?_; (case N => k_asm); (case m => k_mem); (case i => k_asm); k_whole)))
  k_with "setItem ref int" => ((k_here; k_dflt (refine' kda_set (knd := PySem.intKind _ _) ?F ?N ?U ?d (intKind_is _ _ _ _) ?z ?_; (case F => k_asm); (case N => k_asm); (case U => k_updF); (case d => k_asm); (case z => k_asm)); intro wh' wo' wF' wN' whd'; (try dsimp only at wN'); (try k_sweep); (try dsimp only)))
  k_with "setItem ref str" => ((k_here; k_dflt (refine' kda_set (knd := PySem.strKind _ _) ?F ?N ?U ?d (strKind_is _ _ _ _) ?z ?_; (case F => k_asm); (case N => k_asm); (case U => k_updF); (case d => k_asm); (case z => rw [sizeLine_eq]; exact Nat.le_of_ble_eq_true (by with_unfolding_all rfl))); intro wh' wo' wF' wN' whd'; (try first | rw [stored_cond] at whd' | rw [stored_ign] at whd' | rw [stored_hits] at whd' | rw [stored_on] at whd' | rw [stored_trb] at whd'); (try dsimp only at whd'); (try dsimp only at wN'); (try k_sweep); (try dsimp only)))
  k_with "subscriptTail Name" => ((k_here; (with_reducible show wpAny _ _ (subscriptTail _ _ (Value.ref _) (Value.str _ _)) _ _ _); k_dflt (refine kda_item (knd := PySem.strKind _ _) (by k_asm) (by k_mem) (by k_asm) (strKind_is _ _ _ _) (by rfl) ?_); (try dsimp only)))
  k_with "getItem ref str" => ((k_here; k_dflt (refine kdt_getItem (knd := PySem.strKind _ _) (by k_asm) (by k_mem) (by k_asm) (strKind_is _ _ _ _) (by rfl) ?_); (try dsimp only)))
  k_with "subscriptTail" => ((k_here; (with_reducible show wpAny _ _ (subscriptTail _ _ (Value.ref _) (Value.int _ _)) _ _ _); k_dflt (first
  | (refine' item_menu menu6 6 ?N ?m ?a ?b ?c (menu6_at _ _ _ _ _ _) ?_ (by with_unfolding_all rfl); (case N => k_asm); (case m => k_mem); (case a => exact fmod_ge _ _ (by decide)); (case b => exact fmod_lt' _ _ (by decide)); (case c => decide); k_whole)
  | (refine' item_menu menu2 2 ?N ?m ?a ?b ?c (menu2_at _ _) ?_ (by with_unfolding_all rfl); (case N => k_asm); (case m => k_mem); (case a => exact fmod_ge _ _ (by decide)); (case b => exact fmod_lt' _ _ (by decide)); (case c => decide); k_whole)
  | (refine' item_menu kindOf 2 ?N ?m ?a ?b ?c (kinds_at _ _) ?_ (by with_unfolding_all rfl); (case N => k_asm); (case m => k_mem); (case a => exact fmod_ge _ _ (by decide)); (case b => exact fmod_lt' _ _ (by decide)); (case c => decide); k_whole)); intro wtz'; (try dsimp only)))
  k_with "subscriptTail Name Name" => ((k_here; (with_reducible show wpAny _ _ (subscriptTail _ _ (Value.ref _) (Value.int _ _)) _ _ _); k_dflt (refine' item_int ?N ?m ?i ?a ?b ?c ?_ (by with_unfolding_all rfl); (case N => k_asm); (case m => k_mem); (case i => k_asm); (case a => omega); (case b => first | omega | (simp only [List.size_toArray] at *; omega)); (case c => omega); k_whole); intro wtz' whz'; (try dsimp only)))
  k_with "eval Name" => ((k_here; k_dflt (refine' ld ?k1 ?k2 ?_; (case k1 => k_asm); (case k2 => assumption); k_whole)))
  k_with "call builtin:list.append" => ((k_here; (with_reducible show wpAny _ _ (call (Value.builtin _) [Value.ref _, _]) _ _ _); k_dflt (refine' append_K ?k1 ?k2 ?k3 ?_ ?z; (case k1 => k_asm); (case k2 => k_asm); (case k3 => k_upd); (case z => first | size_fits | ((rw [sizeLine_eq]; simp only [List.size_toArray]); omega)); k_whole); intro wh' wF' wN'; (try k_sweep)))
  k_with "eval Name" => ((k_here; k_dflt (first | ((with_reducible first | show wpAny _ _ (eval (Expr.Name (Str.ofString "mark") _) (compEnvC _ _ _ _)) _ _ _ | show wpAny _ _ (eval (Expr.Name (Str.ofString "cell") _) (compEnvC _ _ _ _)) _ _ _ | show wpAny _ _ (eval (Expr.Name (Str.ofString "number") _) (compEnvC _ _ _ _)) _ _ _ | show wpAny _ _ (eval (Expr.Name (Str.ofString "pc") _) (compEnvC _ _ _ _)) _ _ _); refine kcf_cell (by k_asm) (by rfl) (by k_mem) (by k_asm) ?_) | ((with_reducible first | show wpAny _ _ (eval (Expr.Name (Str.ofString "mark") _) (envX _ _ _ _ _ _)) _ _ _ | show wpAny _ _ (eval (Expr.Name (Str.ofString "cell") _) (envX _ _ _ _ _ _)) _ _ _); (refine' nameX_C ?N ?c ?m ?d ?_ ?a ?b; (case a => rfl); (case b => rfl); (case N => k_asm); (case c => rfl); (case m => k_mem); (case d => k_asm); k_whole)) | fail "mine")))
  trivial
set_option maxRecDepth 100000 in
set_option maxHeartbeats 8000000 in
theorem add_spec {S D R pl : Addr} {k0 k1 : Tok} {last : Int} {t tk₁ tx : Tok} {n k c : Nat} {refs : Array Value} {kind text : Str} {vs : List Value} {ns : List Int}
    (B : Below A₀ base outer h₀) (F : Fr h₀ L s.heap m) (X : (hd.heap_39 w.params).In h₀) (N : News h₀ L s.heap ((S, instObj 148 D) :: (D, dictOf (stopsEs w.params k0 k1 R last t) n) :: (R, listOf refs k) :: rest)) (T : TopM mean mg mb h₀) (hf : env.frame = some L) (hk : env.scope.kind = .function) (hd : d < 900)
    (hSD : @Ne Nat S D) (hSR : @Ne Nat S R) (hDR : @Ne Nat D R) (hS : ∀ p ∈ rest, p.1 ≠ S) (hD : ∀ p ∈ rest, p.1 ≠ D) (hR : ∀ p ∈ rest, p.1 ≠ R)
    (hpl : (pl, listOf vs.toArray c) ∈ rest) (hi : IntsAre vs ns) (hns : ns.length < 64) (hl0 : 0 ≤ last) (hl1 : last < 1000) (hrf : refs.size < 1000)
    (h : ∀ h' tk x dx sp kt vt vs' c' tq, Fr h₀ L h' m → News h₀ L h' ((x, instObj 82 dx) :: (dx, dictOf (stopEs w.params kt ⟨last + 1, kind, text, Str.ofString "", 0, 0, true, Str.ofString ""⟩ sp vt) 10) :: (sp, listOf vs'.toArray c') ::
      (S, instObj 148 D) :: (D, dictOf (stopsEs w.params k0 k1 R (last + 1) tq) n) :: (R, listOf (refs.push (.ref x)) (k + 1)) :: rest) → IntsAre vs' (srt ns) → @LT.lt Nat _ S sp → @LT.lt Nat _ D sp → @LT.lt Nat _ R sp → (∀ p ∈ rest, p.1 < sp) → @LT.lt Nat _ sp dx → @LT.lt Nat _ dx x →
      Q (.ref x) { s with heap := h', toks := tk }) :
    wpAny (model prg w) (Ar d (env :: outer) gd u) (call (.ref 107) [.ref S, .str kind tk₁, .str text tx, .ref pl] []) Q E s := by
  refine wpAny_call ?_
  refine code_def (binds := [(Str.ofString "self", .ref S), (Str.ofString "kind", .str kind tk₁), (Str.ofString "text", .str text tx), (Str.ofString "places", .ref pl)]) B F X N T rfl hf hk (by k_is) (by k_is) (by k_room) (BindsTo.of_eq rfl) (locs rfl) ?_ rfl rfl rfl (by decide)
  intro g' L' h' FG' F' N' B' X' T'
  dsimp only
  all_goals try k_fold
  k_steps
  exact h _ _ _ _ _ ⟨_, _, _, _, _, _, _, _, _, _⟩ ⟨_, _, _, _, _, _, _⟩ _ _ _ (by assumption) (by assumption) (by assumption) (by omega) (by omega) (by omega) (by assumption) (by omega) (by omega)
-- part C3
set_option maxRecDepth 100000 in
set_option maxHeartbeats 8000000 in
theorem numbered_spec2 {S D R : Addr} {k0 k1 : Tok} {last z : Int} {tq tz : Tok} {n k : Nat} {items : List Itm}
    (B : Below A₀ base outer h₀) (F : Fr h₀ L s.heap m) (X : (hd.heap_39 w.params).In h₀) (N : News h₀ L s.heap news) (T : TopM mean mg mb h₀) (hf : env.frame = some L) (hk : env.scope.kind = .function) (hd : d < 900)
    (hS : (S, instObj 148 D) ∈ news) (hD : (D, dictOf (stopsEs w.params k0 k1 R last tq) n) ∈ news) (hR : (R, listOf (sxs items) k) ∈ news) (hall : ∀ i ∈ items, (i.sx, instObj 82 i.sd) ∈ news ∧ ∃ kt vt n, (i.sd, dictOf (stopEs w.params kt i.dat i.sp vt) n) ∈ news)
    (h : ∀ h' tk, Fr h₀ L h' m → News h₀ L h' news → Q (foundV (items.find? fun i => decide (i.dat.num = z))) { s with heap := h', toks := tk }) :
    wpAny (model prg w) (Ar d (env :: outer) gd u) (call (.ref 114) [.ref S, .int z tz] []) Q E s := by
  refine wpAny_call ?_
  refine code_def (binds := [(Str.ofString "self", .ref S), (Str.ofString "number", .int z tz)]) B F X N T rfl hf hk (by k_is) (by k_is) (by k_room) (BindsTo.of_eq rfl) (locs rfl) ?_ rfl rfl rfl (by decide)
  intro g' L' h' FG' F' N' B' X' T'
  dsimp only
  all_goals try k_fold
  k_steps
  rename Fr g' L' _ _ => F1
  rename News g' L' _ _ => N1
  refine iter_led (fun i m' nx => nx = news ∧ (∃ u, m' = fun y => if y = Str.ofString "stop" then u else (fun y => List.lookup y (List.reverse [(Str.ofString "self", Value.ref S), (Str.ofString "number", Value.int z tz)])) y) ∧ ∀ j ∈ items.take i, j.dat.num ≠ z)
    rfl hR F1 N1 ⟨rfl, map_self _ _, by simp⟩ (by rintro i m₁ nx ⟨rfl, _⟩; exact hR) ?_ ?_
  · rintro i v m₁ nx h1 tk1 I oI hv ⟨rfl, ⟨u, rfl⟩, hno⟩ hoff F2 N2
    obtain ⟨it, hit, rfl⟩ := sxs_at hv
    have hin := hall it (List.mem_of_getElem? hit)
    obtain ⟨ha, kt, vt, n', hb⟩ := hin
    rw [map_twice] at F2
    clear F1 N1
    all_goals try k_fold
    k_steps
    · rename it.dat.num = z => hz
      have hf : items.find? (fun i => decide (i.dat.num = z)) = some it := find_first hit (fun j hj => by simpa using hno j hj) (by simpa using hz)
      rw [hf] at h
      exact h _ _ (by assumption) (newsTail (by assumption))
    · rename ¬ it.dat.num = z => hz
      refine ⟨_, _, _, _, rfl, by assumption, by assumption, hoff, rfl, ⟨_, rfl⟩, ?_⟩
      intro j hj
      rcases take_succ_mem hit hj with hj | rfl
      · exact hno j hj
      · exact hz
  · rintro m₁ nx h1 tk1 ⟨rfl, ⟨u, rfl⟩, hno⟩ F2 N2
    clear F1 N1
    dsimp only
    all_goals try k_fold
    k_steps
    rw [sxs_size, List.take_length] at hno
    have hf : items.find? (fun i => decide (i.dat.num = z)) = none := by
      rw [List.find?_eq_none]
      intro j hj; simpa using hno j hj
    rw [hf] at h
    exact h _ _ (by assumption) (by assumption)
theorem numbered_spec {S D R : Addr} {k0 k1 : Tok} {last z : Int} {tq tz : Tok} {n k : Nat} {items : List Itm}
    (B : Below A₀ base outer h₀) (F : Fr h₀ L s.heap m) (X : (hd.heap_39 w.params).In h₀) (N : News h₀ L s.heap news) (T : TopM mean mg mb h₀) (hf : env.frame = some L) (hk : env.scope.kind = .function) (hd : d < 900)
    (hS : (S, instObj 148 D) ∈ news) (hD : (D, dictOf (stopsEs w.params k0 k1 R last tq) n) ∈ news) (hR : (R, listOf (sxs items) k) ∈ news) (hall : ∀ i ∈ items, ItmIn w news i)
    (h : ∀ h' tk, Fr h₀ L h' m → News h₀ L h' news → Q (foundV (items.find? fun i => decide (i.dat.num = z))) { s with heap := h', toks := tk }) :
    wpAny (model prg w) (Ar d (env :: outer) gd u) (call (.ref 114) [.ref S, .int z tz] []) Q E s :=
  numbered_spec2 B F X N T hf hk hd hS hD hR (fun i hi => ⟨(hall i hi).a, (hall i hi).b⟩) h
-- part C4
set_option linter.unusedSimpArgs false
set_option linter.unusedVariables false
set_option maxRecDepth 100000 in
set_option maxHeartbeats 8000000 in
theorem delete_spec {S D R : Addr} {k0 k1 : Tok} {last z : Int} {tq tz : Tok} {n k : Nat} {items : List Itm}
    (B : Below A₀ base outer h₀) (F : Fr h₀ L s.heap m) (X : (hd.heap_39 w.params).In h₀) (N : News h₀ L s.heap ((S, instObj 148 D) :: (D, dictOf (stopsEs w.params k0 k1 R last tq) n) :: rest)) (T : TopM mean mg mb h₀) (hf : env.frame = some L) (hk : env.scope.kind = .function) (hd : d < 900)
    (hSD : @Ne Nat S D) (hrD : ∀ p ∈ rest, p.1 ≠ D)
    (hR : (R, listOf (sxs items) k) ∈ rest) (hall : ∀ i ∈ items, ItmIn w rest i) (hlen : items.length < 1000)
    (h : ∀ h' tk D' c, Fr h₀ L h' m → News h₀ L h' ((D', listOf (sxs (items.filter (fun j => decide (j.dat.num ≠ z)))) c) :: (S, instObj 148 D) :: (D, dictOf (stopsEs w.params k0 k1 D' last tq) n) :: rest) → @Ne Nat S D' → @Ne Nat D D' → (∀ p ∈ rest, p.1 ≠ D') →
      Q (.bool (decide (((sxs (items.filter (fun j => decide (j.dat.num ≠ z)))).size : Int) < (sxs items).size))) { s with heap := h', toks := tk }) :
    wpAny (model prg w) (Ar d (env :: outer) gd u) (call (.ref 119) [.ref S, .int z tz] []) Q E s := by
  refine wpAny_call ?_
  refine code_defC (binds := [(Str.ofString "self", .ref S), (Str.ofString "number", .int z tz)]) B F X N T rfl hf hk (by k_is) (by k_is) (by k_room) (BindsTo.of_eq rfl) rfl (by decide +kernel) ?_ rfl rfl rfl
  intro g' L' h' tk' cells' FG' F' N' Y' B' X' T' l1
  k_lt l1
  k_cells Y'
  try simp only [List.cons_append, List.nil_append] at N'
  dsimp only
  k_steps
  rename Fr g' L' _ _ => F1
  rename News g' L' _ _ => N1
  rename Obj => oc
  have hR1 : (R, listOf (sxs items) k) ∈ (L' + 1, oc) :: (S, instObj 148 D) :: (D, dictOf (stopsEs w.params k0 k1 R last tq) n) :: rest := by k_mem
  dsimp only
  refine LCt.CompSrcT.ledger (its := sxs items) rfl F1 N1 hR1 (by rw [sxs_size, sizeLine_eq]; omega) ?_
  intro g2
  refine compT_all (fun i => (((items.take i).filter (fun j => decide (j.dat.num ≠ z))).map (fun j => Value.ref j.sx))) (by simp) ?_ ?_
  · intro i v I oI C oC D' m₂ h1 tk1 E' hi hv hC hx F2 N2 off ne
    obtain ⟨it, hit, rfl⟩ := sxs_at hv
    have hin := hall it (List.mem_of_getElem? hit)
    have ha := hin.a
    refine hold fun H9 hH9 => ?_
    obtain ⟨kt, vt, n', hb⟩ := hin.b
    refine hH9 ?_
    clear hH9 H9
    clear F1 N1
    k_steps
    · rename it.dat.num ≠ z => hz
      refine ⟨_, _, _, rfl, by assumption, by assumption, off, .inr ⟨_, hR1, rfl, _, rfl⟩, rfl, ?_⟩
      simp [List.take_add_one, hit, hz]
    · rename it.dat.num = z => hz
      refine ⟨_, _, _, rfl, by assumption, by assumption, off, .inr ⟨_, hR1, rfl, _, rfl⟩, rfl, ?_⟩
      simp [List.take_add_one, hit, hz]
  · dsimp only
    intro D' h2 tk2 F3 N3 o1
    clear F1 N1
    rw [sxs_size, List.take_length] at N3
    have N4 : News g' L' h2 ((D', listOf (sxs (items.filter (fun j => decide (j.dat.num ≠ z)))) _) :: (L' + 1, oc) :: (S, instObj 148 D) :: (D, dictOf (stopsEs w.params k0 k1 R last tq) n) :: rest) := N3
    clear N3
    have hfl := List.length_filter_le (fun j : Itm => decide (j.dat.num ≠ z)) items
    simp only [LCg.Off1] at o1
    have o2 := o1.2.2.2
    k_steps
    rename News h₀ L _ _ => N5
    exact h _ _ _ _ (by assumption) (newsSub N5 (by intro p hp; rcases List.mem_cons.mp hp with rfl | hp; exact List.mem_cons_self; exact List.mem_cons_of_mem _ (List.mem_cons_of_mem _ hp))) (by omega) (by omega) (off1_mem o2)
-- part C5
set_option maxRecDepth 100000 in
set_option maxHeartbeats 8000000 in
theorem at_spec {S D R : Addr} {k0 k1 : Tok} {last z : Int} {tq tz : Tok} {n k : Nat} {items : List Itm}
    (B : Below A₀ base outer h₀) (F : Fr h₀ L s.heap m) (X : (hd.heap_39 w.params).In h₀) (N : News h₀ L s.heap news) (T : TopM mean mg mb h₀) (hf : env.frame = some L) (hk : env.scope.kind = .function) (hd : d < 900)
    (hS : (S, instObj 148 D) ∈ news) (hD : (D, dictOf (stopsEs w.params k0 k1 R last tq) n) ∈ news)
    (hR : (R, listOf (sxs items) k) ∈ news) (hall : ∀ i ∈ items, ItmIn w news i) (hlen : items.length < 1000)
    (h : ∀ h' tk D' c, Fr h₀ L h' m → News h₀ L h' ((D', listOf (sxs (items.filter (fun j => j.dat.on && decide (z ∈ j.cells)))) c) :: news) → (∀ p ∈ news, p.1 ≠ D') → Q (.ref D') { s with heap := h', toks := tk }) :
    wpAny (model prg w) (Ar d (env :: outer) gd u) (call (.ref 124) [.ref S, .int z tz] []) Q E s := by
  refine wpAny_call ?_
  refine code_defC (binds := [(Str.ofString "self", .ref S), (Str.ofString "pc", .int z tz)]) B F X N T rfl hf hk (by k_is) (by k_is) (by k_room) (BindsTo.of_eq rfl) rfl (by decide +kernel) ?_ rfl rfl rfl
  intro g' L' h' tk' cells' FG' F' N' Y' B' X' T' l1
  k_lt l1
  k_cells Y'
  try simp only [List.cons_append, List.nil_append] at N'
  dsimp only
  all_goals try k_fold
  k_steps
  rename Fr g' L' _ _ => F1
  rename News g' L' _ _ => N1
  rename Obj => oc
  have hR1 : (R, listOf (sxs items) k) ∈ (L' + 1, oc) :: news := by k_mem
  dsimp only
  refine LCt.CompSrcT.ledger (its := sxs items) rfl F1 N1 hR1 (by rw [sxs_size, sizeLine_eq]; omega) ?_
  intro g2
  refine compT_all (fun i => (((items.take i).filter (fun j => j.dat.on && decide (z ∈ j.cells))).map (fun j => Value.ref j.sx))) (by simp) ?_ ?_
  · intro i v I oI C oC D' m₂ h1 tk1 E' hi hv hC hx F2 N2 off ne
    obtain ⟨it, hit, rfl⟩ := sxs_at hv
    have hin := hall it (List.mem_of_getElem? hit)
    have ha := hin.a
    obtain ⟨kt, vt, n', hb⟩ := hin.b
    obtain ⟨vs, c, hc, hic⟩ := hin.c
    clear F1 N1
    all_goals try k_fold
    k_steps
    · rename it.dat.on = true => q1
      rename z ∈ it.cells => q2
      refine ⟨_, _, _, rfl, by assumption, by assumption, off, .inr ⟨_, hR1, rfl, _, rfl⟩, rfl, ?_⟩
      simp [List.take_add_one, hit, q1, q2]
    · rename it.dat.on = true => q1
      rename ¬ z ∈ it.cells => q2
      refine ⟨_, _, _, rfl, by assumption, by assumption, off, .inr ⟨_, hR1, rfl, _, rfl⟩, rfl, ?_⟩
      simp [List.take_add_one, hit, q1, q2]
    · rename it.dat.on = false => q1
      refine ⟨_, _, _, rfl, by assumption, by assumption, off, .inr ⟨_, hR1, rfl, _, rfl⟩, rfl, ?_⟩
      simp [List.take_add_one, hit, q1]
  · dsimp only
    intro D' h2 tk2 F3 N3 o1
    clear F1 N1
    rw [sxs_size, List.take_length] at N3
    have N4 : News g' L' h2 ((D', listOf (sxs (items.filter (fun j => j.dat.on && decide (z ∈ j.cells)))) _) :: (L' + 1, oc) :: news) := N3
    clear N3
    simp only [LCg.Off1] at o1
    have o2 := o1.2
    all_goals try k_fold
    k_steps
    rename News h₀ L _ _ => N5
    exact h _ _ _ _ (by assumption) (newsSub N5 (by intro p hp; rcases List.mem_cons.mp hp with rfl | hp; exact List.mem_cons_self; exact List.mem_cons_of_mem _ (List.mem_cons_of_mem _ hp))) (off1_mem o2)
-- part C6
abbrev JD (w : World) (G S I sx : Addr) (oI : Obj) (news : List (Addr × Obj)) (cells ks : List Int) (v : Option Value) (j : Nat) (m' : Str → Option Value) (nx : List (Addr × Obj)) : Prop :=
  ∃ o, nx = (I, oI) :: (G, o) :: news ∧ o.IsDictOf (PySem.intKind prg w) (kTrue ((cells.take j).foldl addKey ks)) ∧ ∃ v', m' = fun y => if y = Str.ofString "place" then v' else (fun y => if y = Str.ofString "stop" then some (Value.ref sx) else if y = Str.ofString "place" then v else if y = Str.ofString "found" then some (Value.ref G) else List.lookup y (List.reverse [(Str.ofString "self", Value.ref S)])) y
abbrev JC (w : World) (G S : Addr) (news : List (Addr × Obj)) (items : List Itm) (i : Nat) (m' : Str → Option Value) (nx : List (Addr × Obj)) : Prop :=
  ∃ o, nx = (G, o) :: news ∧ o.IsDictOf (PySem.intKind prg w) (kTrue (keysOf (items.take i))) ∧ ∃ u v, m' = fun y => if y = Str.ofString "stop" then u else if y = Str.ofString "place" then v else (fun y => if y = Str.ofString "found" then some (Value.ref G) else List.lookup y (List.reverse [(Str.ofString "self", Value.ref S)])) y
set_option maxRecDepth 100000 in
set_option maxHeartbeats 8000000 in
theorem places_spec {S D R : Addr} {k0 k1 : Tok} {last : Int} {tq : Tok} {n k : Nat} {items : List Itm}
    (B : Below A₀ base outer h₀) (F : Fr h₀ L s.heap m) (X : (hd.heap_39 w.params).In h₀) (N : News h₀ L s.heap news) (T : TopM mean mg mb h₀) (hf : env.frame = some L) (hk : env.scope.kind = .function) (hd : d < 900)
    (hS : (S, instObj 148 D) ∈ news) (hD : (D, dictOf (stopsEs w.params k0 k1 R last tq) n) ∈ news)
    (hR : (R, listOf (sxs items) k) ∈ news) (hall : ∀ i ∈ items, ItmIn w news i) (hlen : items.length < 1000) (hc3 : ∀ i ∈ items, i.cells.length ≤ 3) (h64 : (keysOf items).length < 64)
    (h : ∀ h' tk D' vs c, Fr h₀ L h' m → News h₀ L h' ((D', listOf vs.toArray c) :: news) → (∀ p ∈ news, p.1 ≠ D') → IntsAre vs (srt (keysOf items)) → Q (.ref D') { s with heap := h', toks := tk }) :
    wpAny (model prg w) (Ar d (env :: outer) gd u) (call (.ref 131) [.ref S] []) Q E s := by
  refine wpAny_call ?_
  refine code_def (binds := [(Str.ofString "self", .ref S)]) B F X N T rfl hf hk (by k_is) (by k_is) (by k_room) (BindsTo.of_eq rfl) (locs rfl) ?_ rfl rfl rfl (by decide)
  intro g' L' h' FG' F' N' B' X' T'
  dsimp only
  all_goals try k_fold
  k_steps
  rename Addr => G
  rename Obj => o0
  rename Fr g' L' _ _ => F1
  rename News g' L' _ _ => N1
  rename (G == sysModules) = false => hlo
  rename Obj.IsDictOf (PySem.intKind _ _) o0 _ => hd0
  rename AllLt G news => hG
  have hR1 : ∀ o : Obj, (R, listOf (sxs items) k) ∈ (G, o) :: news := fun o => by k_mem
  have hall1 : ∀ o : Obj, ∀ i ∈ items, ItmIn w ((G, o) :: news) i := fun o i hi => (hall i hi).sub fun p hp => List.mem_cons_of_mem _ hp
  dsimp only
  refine iter_led (JC w G S news items)
    rfl (hR1 o0) F1 N1 ⟨o0, rfl, hd0, map_self2 _ _ _⟩ (by rintro i m₁ nx ⟨o, rfl, _⟩; exact hR1 o) ?_ ?_
  · rintro i v m₁ nx h1 tk1 I oI hv ⟨o, rfl, hdo, u, v, rfl⟩ hoff F2 N2
    obtain ⟨it, hit, rfl⟩ := sxs_at hv
    have hin := hall it (List.mem_of_getElem? hit)
    have ha := hin.a
    refine hold fun H9 hH9 => ?_
    obtain ⟨kt, vt, n', hb⟩ := hin.b
    obtain ⟨vs, c, hc, hic⟩ := hin.c
    refine hH9 ?_
    clear hH9 H9
    rw [map_again] at F2
    clear F1 N1
    all_goals try k_fold
    k_steps
    · rename it.dat.on = true => q1
      rename Fr _ _ h1 _ => F3
      have hGI : @Ne Nat G I := hoff _ List.mem_cons_self
      have hnI : ∀ p ∈ news, p.1 ≠ I := fun p hp => hoff p (List.mem_cons_of_mem _ hp)
      have hk1 : (keysOf (items.take i)).length ≤ 3000 := by
        exact Nat.le_trans (keysOf_take hc3 i) (Nat.mul_le_mul_left 3 (Nat.le_of_lt (by assumption : items.length < 1000)))
      have hc4 : it.cells.length ≤ 3 := hc3 it (List.mem_of_getElem? hit)
      have hc1 : ∀ o : Obj, (it.sp, listOf vs.toArray c) ∈ (I, oI) :: (G, o) :: news := fun o => by k_mem
      dsimp only
      refine iter_led (JD w G S I it.sx oI news it.cells (keysOf (items.take i)) v)
        rfl (hc1 o) F3 N2 ⟨o, rfl, by simpa using hdo, map_self _ _⟩ (by rintro i m₁ nx ⟨o, rfl, _⟩; exact hc1 o) ?_ ?_
      · rintro j v2 m₁ nx h2 tk2 J oJ hv2 ⟨o2, rfl, hdo2, v', rfl⟩ hoff2 F4 N4
        obtain ⟨a, ta, rfl, hja⟩ := ints_at hic hv2
        rw [map_again] at F4
        have hGJ : @Ne Nat G J := hoff2 _ (List.mem_cons_of_mem _ List.mem_cons_self)
        have hz : (kTrue ((it.cells.take j).foldl addKey (keysOf (items.take i)))).length ≤ sizeLine := kTrue_fits (by
          exact Nat.le_trans (cells_take hk1 hc4) (by decide))
        clear F3 N2
        all_goals try k_fold
        k_steps
        rename Obj.IsDictOf (PySem.intKind prg w) _ (stored _ _ _) => hd5
        rw [stored_kTrue] at hd5
        refine ⟨_, _, _, _, rfl, by assumption, by assumption, by simpa using hoff2, ⟨_, rfl, ?_, _, rfl⟩⟩
        rw [List.take_add_one, hja]
        simpa using hd5
      · rintro m₁ nx h2 tk2 ⟨o2, rfl, hdo2, v', rfl⟩ F4 N4
        clear F3 N2
        dsimp only
        all_goals try k_fold
        k_steps
        have e1 : vs.toArray.size = it.cells.length := by simp [hic.length]
        rw [e1, List.take_length] at hdo2
        refine ⟨_, _, _, _, rfl, by assumption, by assumption, by simpa using hoff, ⟨_, rfl, ?_, _, _, map_flip _ _ _ _ _ (by decide)⟩⟩
        rw [keysOf_succ_on hit q1]; exact hdo2
    · rename it.dat.on = false => q1
      refine ⟨_, _, _, _, rfl, by assumption, by assumption, hoff, o, rfl, ?_, ⟨_, _, rfl⟩⟩
      rw [keysOf_succ_off hit q1]; exact hdo
  · rintro m₁ nx h1 tk1 ⟨o, rfl, hdo, u, v, rfl⟩ F2 N2
    clear F1 N1
    rw [sxs_size, List.take_length] at hdo
    dsimp only
    all_goals try k_fold
    k_steps
    refine sorted_dict rfl (by assumption) N2 List.mem_cons_self hdo hlo h64 ?_
    intro D' vs' c' h3 tk3 F5 N5 l5 hi5
    clear F2 N2
    all_goals try k_fold
    k_steps
    rename News h₀ L _ _ => N6
    exact h _ _ _ _ _ (by assumption) (newsSub N6 (by intro p hp; rcases List.mem_cons.mp hp with rfl | hp; exact List.mem_cons_self; exact List.mem_cons_of_mem _ (List.mem_cons_of_mem _ hp))) (fun p hp => Nat.ne_of_lt (l5 p (List.mem_cons_of_mem _ hp))) hi5
-- part C7
set_option maxRecDepth 100000 in
set_option maxHeartbeats 8000000 in
theorem new_spec {pl : Addr} {num : Int} {tn tk₁ tx : Tok} {c : Nat} {kind text : Str} {vs : List Value} {ns : List Int}
    (B : Below A₀ base outer h₀) (F : Fr h₀ L s.heap m) (X : (hd.heap_39 w.params).In h₀) (N : News h₀ L s.heap news) (T : TopM mean mg mb h₀) (hf : env.frame = some L) (hk : env.scope.kind = .function) (hd : d < 900)
    (hpl : (pl, listOf vs.toArray c) ∈ news) (hi : IntsAre vs ns) (hns : ns.length < 64)
    (h : ∀ h' tk D o rp vs' c' t, Fr h₀ L h' m → News h₀ L h' ((rp, listOf vs'.toArray c') :: (D, o) :: news) → (∀ p ∈ news, p.1 < D) → @LT.lt Nat _ D rp → (D == sysModules) = false → IntsAre vs' (srt ns) →
      o.IsDictOf (strKind prg w) (rowKvs ⟨num, kind, text, Str.ofString "", 0, 0, true, Str.ofString ""⟩ rp t) → Q (.ref D) { s with heap := h', toks := tk }) :
    wpAny (model prg w) (Ar d (env :: outer) gd u) (call (.ref 173) [.int num tn, .str kind tk₁, .str text tx, .ref pl] []) Q E s := by
  refine wpAny_call ?_
  refine code_def (binds := [(Str.ofString "number_now", .int num tn), (Str.ofString "kind", .str kind tk₁), (Str.ofString "text", .str text tx), (Str.ofString "cells", .ref pl)]) B F X N T rfl hf hk (by k_is) (by k_is) (by k_room) (BindsTo.of_eq rfl) (locs rfl) ?_ rfl rfl rfl (by decide)
  intro g' L' h' FG' F' N' B' X' T'
  dsimp only
  all_goals try k_fold
  k_steps
  exact h _ _ _ _ _ _ _ ⟨_, _, _, _, _, _, _⟩ (by assumption) (by assumption) (by assumption) (by omega) (by assumption) (by assumption) (by assumption)
-- part C9
set_option maxRecDepth 100000 in
set_option maxHeartbeats 8000000 in
theorem change_spec {rx rp x dx sp : Addr} {i : Dat} {t tv : VTok} {kt : KTok} {n : Nat} {o : Obj} {sort value : Int} {t1 t2 : Tok}
    (B : Below A₀ base outer h₀) (F : Fr h₀ L s.heap m) (X : (hd.heap_39 w.params).In h₀) (N : News h₀ L s.heap ((rx, o) :: (x, instObj 82 dx) :: (dx, dictOf (stopEs w.params kt i sp tv) n) :: rest)) (T : TopM mean mg mb h₀) (hf : env.frame = some L) (hk : env.scope.kind = .function) (hd : d < 900)
    (h1 : @Ne Nat rx x) (h2 : @Ne Nat rx dx) (h3 : @Ne Nat x dx) (hrx : ∀ p ∈ rest, p.1 ≠ rx) (hdx : ∀ p ∈ rest, p.1 ≠ dx) (ho : o.IsDictOf (strKind prg w) (rowKvs i rp t)) (hs1 : 1 ≤ sort) (hs2 : sort < 5)
    (h : ∀ h' tk o' t' n' tv', Fr h₀ L h' m → News h₀ L h' ((rx, o') :: (x, instObj 82 dx) :: (dx, dictOf (stopEs w.params kt (chg sort value i) sp tv') n') :: rest) → o'.IsDictOf (strKind prg w) (rowKvs (chg sort value i) rp t') → Q .none { s with heap := h', toks := tk }) :
    wpAny (model prg w) (Ar d (env :: outer) gd u) (call (.ref 206) [.int sort t1, .ref rx, .ref x, .int value t2] []) Q E s := by
  have hsort := int4 hs1 hs2
  clear hs1 hs2
  refine wpAny_call ?_
  refine code_def (binds := [(Str.ofString "sort", .int sort t1), (Str.ofString "row", .ref rx), (Str.ofString "stop", .ref x), (Str.ofString "value", .int value t2)]) B F X N T rfl hf hk (by k_is) (by k_is) (by k_room) (BindsTo.of_eq rfl) (locs rfl) ?_ rfl rfl rfl (by decide)
  intro g' L' h' FG' F' N' B' X' T'
  dsimp only
  rcases hsort with rfl | rfl | rfl | rfl
  all_goals (try k_fold)
  all_goals k_steps
  all_goals
    first
      | exact h _ _ _ _ _ ⟨_, _, _, _, _, _, _⟩ (by assumption) (by assumption) (by assumption)
      | exact h _ _ _ _ _ ⟨_, _, _, _, _, _, _⟩ (by assumption) (newsTail (by assumption)) (by assumption)
      | exact h _ _ _ _ _ ⟨_, _, _, _, _, _, _⟩ (by assumption) (newsTail (newsTail (by assumption))) (by assumption)
      | exact h _ _ _ _ _ ⟨_, _, _, _, _, _, _⟩ (by assumption) (newsTail (newsTail (newsTail (by assumption)))) (by assumption)
      | exact h _ _ _ _ _ ⟨_, _, _, _, _, _, _⟩ (by assumption) (newsTail (newsTail (newsTail (newsTail (by assumption))))) (by assumption)
-- part C10
abbrev JE (D W : Addr) (oW : Obj) (rest : List (Addr × Obj)) (sizes : List Int) (M : Str → Option Value) (i : Nat) (m' : Str → Option Value) (nx : List (Addr × Obj)) : Prop :=
  ∃ dvs ds c' g tg u, nx = (D, listOf (List.toArray dvs) c') :: (W, oW) :: rest ∧ IntsAre dvs ds ∧ ds.length = i ∧ (∀ (j : Nat) (x : Int), ds[j]? = some x → ∃ z, sizes[j]? = some z ∧ 0 ≤ x ∧ x < z) ∧ 0 ≤ g ∧ g < 2305843009213693951 ∧ m' = fun y => if y = Str.ofString "size" then u else if y = Str.ofString "given" then some (Value.int g tg) else M y
set_option maxRecDepth 100000 in
set_option maxHeartbeats 8000000 in
theorem draw_loop {A : Around} {D W Z a : Addr} {gv : Int} {tg : Tok} {c c2 : Nat} {svs : List Value} {sizes : List Int} {oW : Obj} {M : Str → Option Value} {Q : Flow → Shared → Prop} {cd : Value}
    (hh : A.handled = none) (F : Fr h₀ L s.heap M) (N : News h₀ L s.heap ((D, listOf [].toArray c) :: (W, oW) :: rest)) (hMd : M (Str.ofString "drawn") = some (Value.ref D)) (hMg : M (Str.ofString "given") = some (.int gv tg)) (hg0 : 0 ≤ gv) (hg1 : gv < 2305843009213693951)
    (hWD : @LT.lt Nat _ W D) (hD : ∀ p ∈ rest, p.1 ≠ D) (hW : ∀ p ∈ rest, p.1 ≠ W) (hZ : (Z, listOf svs.toArray c2) ∈ rest) (hsi : IntsAre svs sizes) (hs0 : ∀ x ∈ sizes, 0 < x ∧ x ≤ 12) (hsl : sizes.length ≤ 5)
    (done : ∀ M' dvs ds c' h' tk, Fr h₀ L h' M' → News h₀ L h' ((D, listOf (List.toArray dvs) c') :: (W, oW) :: rest) → M' (Str.ofString "drawn") = some (Value.ref D) → IntsAre dvs ds → ds.length = sizes.length → (∀ (j : Nat) (x : Int), ds[j]? = some x → ∃ z, sizes[j]? = some z ∧ 0 ≤ x ∧ x < z) → Q .next { s with heap := h', toks := tk }) :
    wpAny (model prg w) A (pyIter (.ref Z)) (fun it s₂ => LoopAtV prg w A h₀ (envOf (Str.ofString "_law_draw") (defScope 9) L a cd) (Str.ofString "size") (forBody (defBody 9)[6]?) Q E it s₂) E s := by
  have hsv := hsi.length
  have hDW : @Ne Nat W D := Nat.ne_of_lt hWD
  have hZ1 : ∀ (vs' : Array Value) (c' : Nat), (Z, listOf svs.toArray c2) ∈ (D, listOf vs' c') :: (W, oW) :: rest := fun vs' c' => by k_mem
  refine iter_led (JE D W oW rest sizes M)
    hh (hZ1 _ _) F N ⟨[], [], c, gv, tg, M (Str.ofString "size"), rfl, .nil, rfl, by simp, hg0, hg1, ?_⟩ (by rintro i m₁ nx ⟨dvs, ds, c', g, tg, u, rfl, _⟩; exact hZ1 _ _) ?_ ?_
  · rw [← hMg]; exact map_self2' M _ _
  · rintro i v m₁ nx h1 tk1 I oI hv ⟨dvs, ds, c', g, tg, u, rfl, hdi, hdl, hdb, hgg0, hgg1, rfl⟩ hoff F2 N2
    obtain ⟨sz, ts, rfl, hsz⟩ := ints_at hsi hv
    have hz := hs0 _ (List.mem_of_getElem? hsz)
    have hDI : @Ne Nat D I := hoff _ List.mem_cons_self
    have hWI : @Ne Nat W I := hoff _ (List.mem_cons_of_mem _ List.mem_cons_self)
    have hdv := hdi.length
    have hi5 : i < sizes.length := (List.getElem?_eq_some_iff.mp hsz).1
    rw [map_again] at F2
    clear F N
    with_unfolding_all show wpAny _ _ (execs (_ :: _) (envOf _ (Scope.mk _ _ _ _ _) _ _ _)) _ _ _
    change Fr h₀ L h1 _ at F2
    change News h₀ L h1 _ at N2
    have hdr : (if Str.ofString "drawn" = Str.ofString "size" then some (Value.int sz ts) else if Str.ofString "drawn" = Str.ofString "given" then some (Value.int g tg) else M (Str.ofString "drawn")) = some (Value.ref D) := by
      rw [if_neg (by decide), if_neg (by decide)]; exact hMd
    k_steps
    refine ld F2 hdr ?_
    k_steps
    refine append_K F2 N2 (by k_upd) ?_ (by rw [List.size_toArray, hdv, hdl]; exact sz_le (Nat.le_trans (Nat.le_of_lt hi5) hsl) rfl)
    intro h2 F2 N2
    k_steps
    rename Fr _ _ _ _ => F3
    rename News _ _ _ _ => N3
    rw [List.push_toArray] at N3
    have hq : Int.fdiv g sz = g / sz := Int.fdiv_eq_ediv_of_nonneg _ (Int.le_of_lt hz.1)
    have hq0 : 0 ≤ g / sz := Int.ediv_nonneg hgg0 (Int.le_of_lt hz.1)
    have hq1 : g / sz ≤ g := Int.ediv_le_self _ hgg0
    dsimp only [TurnG]
    rw [map_flip M _ _ _ _ (by decide)] at F3
    refine ⟨_, _, _, _, rfl, F3, N3, by simpa using hoff, _, _, _, _, _, _, rfl, hdi.append (.cons (Int.fmod g sz) _ .nil), by simp [hdl], ?_, by rw [hq]; exact hq0, by rw [hq]; exact Int.lt_of_le_of_lt hq1 hgg1, rfl⟩
    intro j x hj
    rcases Nat.lt_or_ge j ds.length with hjl | hjl
    · rw [List.getElem?_append_left hjl] at hj; exact hdb j x hj
    · rw [List.getElem?_append_right hjl] at hj
      obtain ⟨hj1, hj2⟩ := List.getElem?_eq_some_iff.mp hj
      have hj0 : j = ds.length := Nat.le_antisymm (Nat.le_of_sub_eq_zero (Nat.lt_one_iff.mp hj1)) hjl
      subst hj0
      simp at hj2
      exact ⟨sz, by rw [hdl]; exact hsz, by rw [← hj2]; exact fmod_ge _ _ hz.1, by rw [← hj2]; exact fmod_lt' _ _ hz.1⟩
  · rintro m₁ nx h1 tk1 ⟨dvs, ds, c', g, tg, u, rfl, hdi, hdl, hdb, hgg0, hgg1, rfl⟩ F2 N2
    exact done _ _ _ _ _ _ F2 N2 (by rw [if_neg (by decide), if_neg (by decide)]; exact hMd) hdi (by simpa [hsv] using hdl) hdb
set_option maxRecDepth 100000 in
set_option maxHeartbeats 8000000 in
theorem draw_spec {W NA Z : Addr} {place carry : Int} {t1 t2 : Tok} {k c c2 : Nat} {nvs svs : List Value} {nums sizes : List Int}
    (B : Below A₀ base outer h₀) (F : Fr h₀ L s.heap m) (X : (hd.heap_39 w.params).In h₀) (N : News h₀ L s.heap ((W, listOf [Value.ref NA, .int place t1, .int carry t2].toArray k) :: rest)) (T : TopM mean mg mb h₀) (hf : env.frame = some L) (hk : env.scope.kind = .function) (hd : d < 900)
    (h : ∀ h' tk D dvs ds c' carry' ta tb, Fr h₀ L h' m → News h₀ L h' ((D, listOf (List.toArray dvs) c') :: (W, listOf [Value.ref NA, .int (place + 1) ta, .int carry' tb].toArray k) :: rest) → IntsAre dvs ds → ds.length = sizes.length → (∀ (j : Nat) (x : Int), ds[j]? = some x → ∃ z, sizes[j]? = some z ∧ 0 ≤ x ∧ x < z) → 0 ≤ carry' → carry' < 65537 → W < D → (∀ p ∈ rest, p.1 ≠ D) → Q (.ref D) { s with heap := h', toks := tk })
    (hW : ∀ p ∈ rest, p.1 ≠ W) (hNA : (NA, listOf nvs.toArray c) ∈ rest) (hni : IntsAre nvs nums) (hZ : (Z, listOf svs.toArray c2) ∈ rest) (hsi : IntsAre svs sizes)
    (hn0 : ∀ x ∈ nums, 0 ≤ x ∧ x < 2305843009213693951) (hnl : nums.length ≤ 15) (hp0 : 0 ≤ place) (hp1 : place ≤ 1000) (hc0 : 0 ≤ carry) (hc1 : carry < 65537) (hs0 : ∀ x ∈ sizes, 0 < x ∧ x ≤ 12) (hsl : sizes.length ≤ 5) :
    wpAny (model prg w) (Ar d (env :: outer) gd u) (call (.ref 166) [.ref W, .ref Z] []) Q E s := by
  refine wpAny_call ?_
  refine code_def (binds := [(Str.ofString "well", .ref W), (Str.ofString "sizes", .ref Z)]) B F X N T rfl hf hk (by k_is) (by k_is) (by k_room) (BindsTo.of_eq rfl) (locs rfl) ?_ rfl rfl rfl (by decide)
  intro g' L' h' FG' F' N' B' X' T'
  dsimp only
  have hnv := hni.length
  have hsv := hsi.length
  k_steps
  all_goals rename IntsAre svs sizes => hsi
  · rename List.getD nums (Int.toNat place) 0 ∈ nums => hz'
    rename_i D hA hB lF N1
    have hgv := hn0 _ hz'
    refine frGen2 (Str.ofString "drawn") (Str.ofString "given") lF fun M hMd hMg F1 => ?_
    replace hMd : M (Str.ofString "drawn") = some (Value.ref D) := hMd
    refine hold fun H9 hH9 => ?_
    obtain ⟨c', ta, tb, hcc0, hcc1, N2⟩ : ∃ c' ta tb, 0 ≤ c' ∧ c' < 65537 ∧ News g' L' hB ((D, listOf [].toArray 0) :: (W, listOf [Value.ref NA, .int (place + 1) ta, .int c' tb].toArray k) :: rest) := ⟨_, _, _, fmod_ge _ _ (by decide), fmod_lt' _ _ (by decide), N1⟩
    obtain ⟨gv, tg, hg0, hg1, hMg⟩ : ∃ gv tg, 0 ≤ gv ∧ gv < 2305843009213693951 ∧ M (Str.ofString "given") = some (.int gv tg) := ⟨_, _, by omega, by omega, hMg⟩
    refine hH9 ?_
    clear hH9 H9
    exact draw_loop rfl F1 N2 hMd hMg hg0 hg1 hlt9.1 (neAll hz8) hW hZ hsi hs0 hsl (fun M' dvs ds c'' h2 tk2 F5 N5 hM' hi5 hl5 hb5 => by
      k_steps
      exact h _ _ _ _ _ _ _ _ _ (by assumption) (by assumption) hi5 hl5 hb5 hcc0 hcc1 hlt9.1 (neAll hz8))
  · rename_i D hA hB lF N1
    refine frGen2 (Str.ofString "drawn") (Str.ofString "given") lF fun M hMd hMg F1 => ?_
    replace hMd : M (Str.ofString "drawn") = some (Value.ref D) := hMd
    refine hold fun H9 hH9 => ?_
    obtain ⟨c', ta, tb, hcc0, hcc1, N2⟩ : ∃ c' ta tb, 0 ≤ c' ∧ c' < 65537 ∧ News g' L' hB ((D, listOf [].toArray 0) :: (W, listOf [Value.ref NA, .int (place + 1) ta, .int c' tb].toArray k) :: rest) := ⟨_, _, _, fmod_ge _ _ (by decide), fmod_lt' _ _ (by decide), N1⟩
    obtain ⟨gv, tg, hg0, hg1, hMg⟩ : ∃ gv tg, 0 ≤ gv ∧ gv < 2305843009213693951 ∧ M (Str.ofString "given") = some (.int gv tg) := ⟨_, _, by omega, by omega, hMg⟩
    refine hH9 ?_
    clear hH9 H9
    exact draw_loop rfl F1 N2 hMd hMg hg0 hg1 hlt9.1 (neAll hz8) hW hZ hsi hs0 hsl (fun M' dvs ds c'' h2 tk2 F5 N5 hM' hi5 hl5 hb5 => by
      k_steps
      exact h _ _ _ _ _ _ _ _ _ (by assumption) (by assumption) hi5 hl5 hb5 hcc0 hcc1 hlt9.1 (neAll hz8))
-- part Exc3
theorem made_news {h h' : Heap} {e : Addr} {C : Addr} {args : List Value} (hm : Heap.MadeExcOf h h' e (.ref C) args) (F : Fr h₀ L h m) (N : News h₀ L h rest) :
    ∃ t, Fr h₀ L h' m ∧ News h₀ L h' ((e, excO C none (exv t)) :: rest) ∧ ∀ p ∈ rest, p.1 ≠ e := by
  refine hold fun H9 hH9 => ?_
  obtain ⟨t, he, _, _⟩ := hm.there
  obtain ⟨oL, es, ep, hL, r⟩ := F.ns
  refine hH9 ?_
  clear hH9 H9
  refine ⟨t, ⟨⟨oL, es, ep, hm.keeps _ _ hL, r⟩, fun b o q => hm.keeps _ _ (F.keep b o q), F.above⟩, fun p hp => ?_, fun p hp q => ?_⟩
  · rcases List.mem_cons.mp hp with rfl | hp
    · refine ⟨he, fun q => ?_, ?_⟩
      · have q' : e = L := q
        rw [← q', hm.new] at hL; cases hL
      · exact kts_none F.keep hm.new
    · exact ⟨hm.keeps _ _ (N p hp).1, (N p hp).2⟩
  · have := (N p hp).1; rw [q, hm.new] at this; cases this
noncomputable abbrev wordEs (P : Params) (word : Str) (t1 t2 : Tok) : List DictEntry := [⟨PyData.keyHash P "word", .str "word" t1, .str word t2⟩]
noncomputable abbrev wordAtEs (P : Params) (word : Str) (t1 t2 t3 t4 : Tok) (at_ : Int) : List DictEntry := [⟨PyData.keyHash P "word", .str "word" t1, .str word t2⟩, ⟨PyData.keyHash P "at", .str "at" t3, .int at_ t4⟩]
set_option maxRecDepth 100000 in
set_option maxHeartbeats 8000000 in
theorem init28_spec {A : Around} {e t C N0 : Addr} {t1 : Tok} {word nm q : Str} {bs bm : List Value} {hdct : Bool} {sn : List Str} {sub : List Value} {ab : Bool} {col : Option Bool} {cdd : Option Addr} {k0 k1 k2 k3 k5 : Option Value} {newId : String} {cd : ClassData}
    (B : Below A₀ base outer h₀) (F : Fr h₀ L s.heap m) (X : (hd.heap_39 w.params).In h₀) (N : News h₀ L s.heap ((e, excO C none (exv t)) :: rest)) (T : TopM mean mg mb h₀) (hf : env.frame = some L) (hk : env.scope.kind = .function) (hA : A.frames = some (env :: outer)) (hdp : A.depth < 950)
    (hlC : (hd.heap_39 w.params).lookup C = some (excClassObj nm q C N0 bs bm hdct sn sub ab col cdd k0 k1 k2 k3 k5 newId)) (TI : TailIs bm)
    (hs : findIn (hd.heap_39 w.params) (.ref C) "__setattr__" = some (some (.builtin "object.__setattr__"))) (hc : clsIn (hd.heap_39 w.params) C = some cd) (hm : cd.mro = excMro C) (hdi : cd.hasDict = true) (ht : findIn (hd.heap_39 w.params) (.ref C) "word" = some none)
    (hne : ∀ p ∈ rest, p.1 ≠ e)
    (h : ∀ h' tk t' D tw, Fr h₀ L h' m → News h₀ L h' ((D, dictOf (wordEs w.params word tw t1) 1) :: (e, excO C (some D) (exv t')) :: rest) → e < D → (∀ p ∈ rest, p.1 < D) → Q .none { s with heap := h', toks := tk }) :
    wpAny (model prg w) A (call (.ref 28) [.ref e, .str word t1]) Q E s := by
  have Fn := PySem.F.excBase_Exception
  refine wpAny_call ?_
  refine code_def (binds := [(Str.ofString "self", .ref e), (Str.ofString "word", .str word t1)]) B F X N T hA hf hk (by k_is) (by k_is) (by simp only [recursionLimit]; omega) (BindsTo.of_eq rfl) (locs rfl) ?_ rfl rfl rfl (by decide)
  intro g' L' h' FG' F' N' B' X' T'
  dsimp only
  all_goals try k_fold
  k_steps
  refine method_type F' X' (by kernel_rfl) (by decide +kernel) (v := .builtin "Exception.__init__") (by k_is) (by rfl) ?_
  all_goals try k_fold
  k_steps
  refine xc_init Fn F' N' ((X'.keeps F'.keep) _ _ hlC) TI hne (by rw [sizeLine_eq]; simp) ?_
  intro h2 t2 F2 N2
  all_goals try k_fold
  k_steps
  dsimp only
  refine xc_set0 F2 N2 (X'.keeps F2.keep) hne hs hc hm hdi ht ?_
  intro h3 D F3 N3 l1 l2
  dsimp only
  all_goals try k_fold
  k_steps
  exact h _ _ _ _ _ (by assumption) (by assumption) l1 l2
set_option maxRecDepth 100000 in
set_option maxHeartbeats 8000000 in
theorem init48_spec {A : Around} {e t C N0 : Addr} {t1 t5 : Tok} {at_ : Int} {word nm q : Str} {bs bm : List Value} {hdct : Bool} {sn : List Str} {sub : List Value} {ab : Bool} {col : Option Bool} {cdd : Option Addr} {k0 k1 k2 k3 k5 : Option Value} {newId : String} {cd : ClassData}
    (B : Below A₀ base outer h₀) (F : Fr h₀ L s.heap m) (X : (hd.heap_39 w.params).In h₀) (N : News h₀ L s.heap ((e, excO C none (exv t)) :: rest)) (T : TopM mean mg mb h₀) (hf : env.frame = some L) (hk : env.scope.kind = .function) (hA : A.frames = some (env :: outer)) (hdp : A.depth < 940)
    (hlC : (hd.heap_39 w.params).lookup C = some (excClassObj nm q C N0 bs bm hdct sn sub ab col cdd k0 k1 k2 k3 k5 newId)) (TI : TailIs bm)
    (hs : findIn (hd.heap_39 w.params) (.ref C) "__setattr__" = some (some (.builtin "object.__setattr__"))) (hc : clsIn (hd.heap_39 w.params) C = some cd) (hm : cd.mro = excMro C) (hdi : cd.hasDict = true) (ht : findIn (hd.heap_39 w.params) (.ref C) "word" = some none) (ht' : findIn (hd.heap_39 w.params) (.ref C) "at" = some none)
    (hne : ∀ p ∈ rest, p.1 ≠ e)
    (h : ∀ h' tk t' D tw tw', Fr h₀ L h' m → News h₀ L h' ((D, dictOf (wordAtEs w.params word tw t1 tw' t5 at_) 2) :: (e, excO C (some D) (exv t')) :: rest) → e < D → (∀ p ∈ rest, p.1 < D) → Q .none { s with heap := h', toks := tk }) :
    wpAny (model prg w) A (call (.ref 48) [.ref e, .str word t1, .int at_ t5]) Q E s := by
  refine wpAny_call ?_
  refine code_def (binds := [(Str.ofString "self", .ref e), (Str.ofString "word", .str word t1), (Str.ofString "at", .int at_ t5)]) B F X N T hA hf hk (by k_is) (by k_is) (by simp only [recursionLimit]; omega) (BindsTo.of_eq rfl) (locs rfl) ?_ rfl rfl rfl (by decide)
  intro g' L' h' FG' F' N' B' X' T'
  dsimp only
  all_goals try k_fold
  k_steps
  try dsimp only
  refine init28_spec B' F' X' N' T' rfl rfl (Around.frames_deeper hA) (by show A.depth + 1 < 950; omega) hlC TI hs hc hm hdi ht hne ?_
  intro h2 tk2 t2 D tw F2 N2 l1 l2
  dsimp only
  all_goals try k_fold
  k_steps
  try dsimp only
  refine xc_set1 F2 N2 (X'.keeps F2.keep) (by intro p hp; rcases List.mem_cons.mp hp with rfl | hp; exact Nat.ne_of_lt l1; exact Nat.ne_of_lt (l2 p hp)) rfl hs hc hm hdi ht' rfl (by simp only [putL]; split <;> simp) ?_
  intro h3 F3 N3
  dsimp only
  all_goals try k_fold
  k_steps
  exact h _ _ _ _ _ _ (by assumption) (by assumption) l1 l2
/-- NotTold and ExprFault, made -/
theorem tail63 : TailIs [.ref 31, .type "Exception", .type "BaseException", .type "object"] := ⟨by decide, by decide, by decide, by decide⟩
set_option maxRecDepth 100000 in
set_option maxHeartbeats 8000000 in
theorem made63 {A : Around} {t1 : Tok} {word : Str}
    (B : Below A₀ base outer h₀) (F : Fr h₀ L s.heap m) (X : (hd.heap_39 w.params).In h₀) (N : News h₀ L s.heap rest) (T : TopM mean mg mb h₀) (hf : env.frame = some L) (hk : env.scope.kind = .function) (hA : A.frames = some (env :: outer)) (hdp : A.depth < 930)
    (h : ∀ h' tk e D t' tw, Fr h₀ L h' m → News h₀ L h' ((D, dictOf (wordEs w.params word tw t1) 1) :: (e, excO 63 (some D) (exv t')) :: rest) → e < D → (∀ p ∈ rest, p.1 < D) → (∀ p ∈ rest, p.1 ≠ e) → Q (.ref e) { s with heap := h', toks := tk }) :
    wpAny (model prg w) A (call (.ref 63) [.str word t1]) Q E s := by
  have XX := X.keeps F.keep
  have hw : ∀ C : Code, (A.under C).depth = A.depth + C.weight := fun _ => rfl
  refine xc_call (fI := 28) PySem.F.excBase_Exception tail63 (XX _ _ (by k_is)) (looks_findIn XX (by k_is)) (XX _ _ (by k_is)) rfl (by rw [sizeLine_eq]; simp) ?_
  intro h1 e hm
  refine hold fun H9 hH9 => ?_
  obtain ⟨t', F1, N1, hne⟩ := made_news hm F N
  refine hH9 ?_
  clear hH9 H9
  refine init28_spec B F1 X N1 T hf hk ?_ ?_ (by k_is) tail63 (by k_is) (by k_is) rfl rfl (by k_is) hne ?_
  · unfold Around.under; dsimp only; rw [hA]; rfl
  · show A.depth + _ < 950
    have : (Code.builtin "type.__call__" { pos := [Value.ref 63, Value.str word t1] }).weight ≤ 10 := Nat.le_of_ble_eq_true rfl
    omega
  · intro h2 tk2 t2 D tw F2 N2 l1 l2
    exact ⟨rfl, h _ _ _ _ _ _ F2 N2 l1 l2 hne⟩
set_option maxRecDepth 100000 in
set_option maxHeartbeats 8000000 in
theorem made51 {A : Around} {t1 t5 : Tok} {word : Str} {at_ : Int}
    (B : Below A₀ base outer h₀) (F : Fr h₀ L s.heap m) (X : (hd.heap_39 w.params).In h₀) (N : News h₀ L s.heap rest) (T : TopM mean mg mb h₀) (hf : env.frame = some L) (hk : env.scope.kind = .function) (hA : A.frames = some (env :: outer)) (hdp : A.depth < 930)
    (h : ∀ h' tk e D t' tw tw', Fr h₀ L h' m → News h₀ L h' ((D, dictOf (wordAtEs w.params word tw t1 tw' t5 at_) 2) :: (e, excO 51 (some D) (exv t')) :: rest) → e < D → (∀ p ∈ rest, p.1 < D) → (∀ p ∈ rest, p.1 ≠ e) → Q (.ref e) { s with heap := h', toks := tk }) :
    wpAny (model prg w) A (call (.ref 51) [.str word t1, .int at_ t5]) Q E s := by
  have XX := X.keeps F.keep
  refine xc_call (fI := 48) PySem.F.excBase_Exception tail63 (XX _ _ (by k_is)) (looks_findIn XX (by k_is)) (XX _ _ (by k_is)) rfl (by rw [sizeLine_eq]; simp) ?_
  intro h1 e hm
  refine hold fun H9 hH9 => ?_
  obtain ⟨t', F1, N1, hne⟩ := made_news hm F N
  refine hH9 ?_
  clear hH9 H9
  refine init48_spec B F1 X N1 T hf hk ?_ ?_ (by k_is) tail63 (by k_is) (by k_is) rfl rfl (by k_is) (by k_is) hne ?_
  · unfold Around.under; dsimp only; rw [hA]; rfl
  · show A.depth + _ < 940
    have : (Code.builtin "type.__call__" { pos := [Value.ref 51, Value.str word t1, Value.int at_ t5] }).weight ≤ 5 := Nat.le_of_ble_eq_true rfl
    omega
  · intro h2 tk2 t2 D tw tw' F2 N2 l1 l2
    exact ⟨rfl, h _ _ _ _ _ _ _ F2 N2 l1 l2 hne⟩
/-- what a raise asks of the value: an exception of an own class, on no way yet -/
def XcR (E : Value → Shared → Prop) (v : Value) (s₁ : Shared) : Prop :=
  ∃ (K : Frag) (e : Addr) (C : Addr) (nm : Str) (q : Str) (N0 : Addr), ∃ bs bm hdct sn sub ab col cdd k0 k1 k2 k3 k5 newId dd t, v = .ref e ∧ K.lookup C = some (excClassObj nm q C N0 bs bm hdct sn sub ab col cdd k0 k1 k2 k3 k5 newId) ∧ TailIs bm ∧ K.In s₁.heap ∧ s₁.heap.get? e = some (excO C dd (exv t)) ∧ E (.ref e) s₁
theorem raise_xc {M : Model} {A : Around} {x : Sem Value} {Q : Flow → Shared → Prop} (hh : A.handled = none) (h : wpAny M A x (XcR E) E s) : wpAny M A (raiseStmt env (some x) none) Q E s := by
  unfold raiseStmt
  refine wpAny_bind (wpAny_mono h (fun v s₁ h₁ => ?_) fun _ _ x => x)
  obtain ⟨K, e, C, nm, q, N0, bs, bm, hdct, sn, sub, ab, col, cdd, k0, k1, k2, k3, k5, newId, dd, t, rfl, hC, TI, X, he, hE⟩ := h₁
  have hcB : (Value.ref C :: bm).contains (.type "BaseException") = true := by rw [List.contains_cons, TI.base, Bool.or_true]
  refine hold fun H9 hH9 => ?_
  obtain ⟨hp, g, d, tk, os⟩ := s₁
  refine hH9 ?_
  clear hH9 H9
  have hC' := X _ _ hC
  dsimp only at he hC'
  repeat (first | with_reducible refine wpAny_loadPart_at he ?_ | with_reducible refine wpAny_loadPart_at hC' ?_ | (with_reducible refine wpAny_isSubtype_exc hC' ?_; rw [hcB]) | wp_step)
  exact wpAny_raiseNew_none hh hE
theorem raise_own {M : Model} {A : Around} {f : Expr} {args : List Expr} {cpos pos : Pos} {Q : Flow → Shared → Prop} (hh : A.handled = none) (h : wpAny M A (eval (.Call f args [] cpos) env) (XcR E) E s) :
    wpAny M A (exec (.Raise (some (.Call f args [] cpos)) none pos) env) Q E s := by
  rw [arm_exec_Raise]
  refine wpAny_bind (wpAny_standAt (raise_xc hh ?_))
  refine wpAny_bind (wpAny_mono h (fun v s₃ h₃ => wpAny_bind (wpAny_standAt (wpAny_pure h₃))) fun _ _ x => x)
-- part C8
theorem words_C8 : True := by
  k_with_none
  k_with "spliced" => (refine args_nil ?_; (try dsimp only [List.cons_append, List.nil_append]))
  k_with "mem" => ((refine memL ?_); with_reducible assumption)
  k_with "all" => (first | with_reducible assumption | exact Mine.neAll (by with_reducible assumption) | fail "mine")
  k_with "put" => (first | exact put_last | exact put_rows | exact put_cond | exact put_ign | exact put_hits | exact put_on | exact put_trb | fail "mine")
  k_with "room" => (first | exact Mine.rm 0 (by exact rfl) (by with_reducible assumption) (by exact rfl) | exact Mine.rm 1 (by exact rfl) (by with_reducible assumption) (by exact rfl) | exact Mine.rm 2 (by exact rfl) (by with_reducible assumption) (by exact rfl) | exact Mine.rm 3 (by exact rfl) (by with_reducible assumption) (by exact rfl) | exact Mine.rm 4 (by exact rfl) (by with_reducible assumption) (by exact rfl) | (simp only [depth_under_make, depth_under_kw, depth_in1, depth_deeper, recursionLimit]; omega))
  k_with "size" => (first | with_reducible assumption | with_reducible exact Mine.sz0 | with_reducible exact Mine.sz1 | with_reducible exact Mine.sz2 | with_reducible exact Mine.sz3 | with_reducible exact Mine.sz4 | with_reducible exact Mine.sz5 | with_reducible exact Mine.sz6 | exact Mine.sz_lt (by with_reducible assumption) (by exact rfl) | exact Mine.sz_le (by with_reducible assumption) (by exact rfl) | fail "mine")
  k_with "lt" => ((rename AllLt _ _ => hlt9); (try dsimp only [AllLt] at hlt9); (try simp only [and_true] at hlt9); (try first | (have hz8 := AllLt.lt (hlt9)) | (have hz8 := AllLt.lt (hlt9).2) | (have hz8 := AllLt.lt (hlt9).2.2) | (have hz8 := AllLt.lt (hlt9).2.2.2) | (have hz8 := AllLt.lt (hlt9).2.2.2.2) | (have hz8 := AllLt.lt (hlt9).2.2.2.2.2) | (have hz8 := AllLt.lt (hlt9).2.2.2.2.2.2) | (have hz8 := AllLt.lt (hlt9).2.2.2.2.2.2.2) | (have hz8 := AllLt.lt (hlt9).2.2.2.2.2.2.2.2) | (have hz8 := AllLt.lt (hlt9).2.2.2.2.2.2.2.2.2) | (have hz8 := AllLt.lt (hlt9).2.2.2.2.2.2.2.2.2.2) | (have hz8 := AllLt.lt (hlt9).2.2.2.2.2.2.2.2.2.2.2) | (have hz8 := AllLt.lt (hlt9).2.2.2.2.2.2.2.2.2.2.2.2)))
  k_with "ltc" => (first | with_reducible assumption | exact And.left (by with_reducible assumption) | exact And.left (And.right (by with_reducible assumption)) | exact And.left (And.right (And.right (by with_reducible assumption))) | exact And.left (And.right (And.right (And.right (by with_reducible assumption)))) | exact And.left (And.right (And.right (And.right (And.right (by with_reducible assumption))))) | exact And.left (And.right (And.right (And.right (And.right (And.right (by with_reducible assumption)))))) | exact And.left (And.right (And.right (And.right (And.right (And.right (And.right (by with_reducible assumption))))))) | exact And.left (And.right (And.right (And.right (And.right (And.right (And.right (And.right (by with_reducible assumption)))))))) | exact And.left (And.right (And.right (And.right (And.right (And.right (And.right (And.right (And.right (by with_reducible assumption))))))))) | exact And.left (And.right (And.right (And.right (And.right (And.right (And.right (And.right (And.right (And.right (by with_reducible assumption)))))))))) | exact And.right (by with_reducible assumption) | exact And.right (And.right (by with_reducible assumption)) | exact And.right (And.right (And.right (by with_reducible assumption))) | exact And.right (And.right (And.right (And.right (by with_reducible assumption)))) | exact And.right (And.right (And.right (And.right (And.right (by with_reducible assumption))))) | exact And.right (And.right (And.right (And.right (And.right (And.right (by with_reducible assumption)))))) | exact And.right (And.right (And.right (And.right (And.right (And.right (And.right (by with_reducible assumption))))))) | exact And.right (And.right (And.right (And.right (And.right (And.right (And.right (And.right (by with_reducible assumption)))))))) | exact And.right (And.right (And.right (And.right (And.right (And.right (And.right (And.right (And.right (by with_reducible assumption))))))))) | fail "mine")
  k_with "ne" => (first | k_extra "ltc" | ((with_reducible refine' Ne.symm ?_); k_extra "ltc") | ((with_reducible refine' Nat.ne_of_gt ?_); k_extra "ltc") | ((with_reducible refine' Nat.ne_of_lt ?_); k_extra "ltc") | ((with_reducible refine' Nat.ne_of_gt (Nat.lt_succ_of_lt ?_)); k_extra "ltc") | fail "mine")
  k_with "omega" => (first | k_extra "ltc" | with_reducible decide | k_extra "ne" | k_extra "bd" | fail "mine")
  k_with "bd" => (first | with_reducible exact Mine.p7 | ((with_reducible refine' Mine.o1 ?oh ?oe); (case oh => with_reducible assumption); (case oe => exact rfl)) | ((with_reducible refine' Mine.o2 ?oh ?oe); (case oh => with_reducible assumption); (case oe => exact rfl)) | ((with_reducible refine' Mine.o3 ?oh ?oe); (case oh => with_reducible assumption); (case oe => exact rfl)) | ((with_reducible refine' Mine.o4 ?oh ?oe); (case oh => with_reducible assumption); (case oe => exact rfl)) | ((with_reducible refine' Mine.o5 ?oh ?oe); (case oh => with_reducible assumption); (case oe => exact rfl)) | ((with_reducible refine' Mine.o6 ?oh ?oe); (case oh => with_reducible assumption); (case oe => exact rfl)) | ((with_reducible refine' Mine.o7 ?oh ?oe); (case oh => with_reducible assumption); (case oe => exact rfl)) | ((with_reducible refine' Mine.p1 ?oh ?oe); (case oh => with_reducible assumption); (case oe => exact rfl)) | ((with_reducible refine' Mine.p4 ?oh ?oe); (case oh => with_reducible assumption); (case oe => exact rfl)) | ((with_reducible refine' Mine.p6 ?oh ?oe); (case oh => with_reducible assumption); (case oe => exact rfl)) | ((with_reducible refine' Mine.r6 ?oh ?oe); (case oh => with_reducible assumption); (case oe => exact rfl)) | ((with_reducible refine' Mine.r13 ?oh ?oe); (case oh => with_reducible assumption); (case oe => exact rfl)) | ((with_reducible refine' Mine.r14 ?oh ?oe); (case oh => with_reducible assumption); (case oe => exact rfl)) | ((with_reducible refine' Mine.r15 ?oh ?oe); (case oh => with_reducible assumption); (case oe => exact rfl)) | ((with_reducible refine' Mine.r18 ?oh ?oe); (case oh => with_reducible assumption); (case oe => exact rfl)) | ((with_reducible refine' Mine.r19 ?oh ?oe); (case oh => with_reducible assumption); (case oe => exact rfl)) | ((with_reducible refine' Mine.r20 ?oh ?oe); (case oh => with_reducible assumption); (case oe => exact rfl)) | ((with_reducible refine' Mine.r21 ?oh ?oe); (case oh => with_reducible assumption); (case oe => exact rfl)) | ((with_reducible refine' Mine.o8 ?og ?oh ?oe); (case og => with_reducible assumption); (case oh => with_reducible assumption); (case oe => exact rfl)) | ((with_reducible refine' Mine.o9 ?og ?oh ?oe); (case og => with_reducible assumption); (case oh => with_reducible assumption); (case oe => exact rfl)) | ((with_reducible refine' Mine.p5 ?og ?oh ?oe); (case og => with_reducible assumption); (case oh => with_reducible assumption); (case oe => exact rfl)) | ((with_reducible refine' Mine.r5 ?og ?oh ?oe); (case og => with_reducible assumption); (case oh => with_reducible assumption); (case oe => exact rfl)) | ((with_reducible refine' Mine.r1 ?og ?oh); (case og => with_reducible assumption); (case oh => with_reducible assumption)) | ((with_reducible refine' Mine.r3 ?og ?oh); (case og => with_reducible assumption); (case oh => with_reducible assumption)) | ((with_reducible refine' Nat.le_trans ?og ?oh); (case og => with_reducible assumption); (case oh => with_reducible assumption)) | ((with_reducible refine' Mine.r22 ?oh); (case oh => with_reducible assumption)) | ((with_reducible refine' Mine.r23 ?oh); (case oh => with_reducible assumption)) | ((with_reducible refine' Mine.big_lo ?oh); (case oh => with_reducible assumption)) | ((with_reducible refine' Mine.big_hi ?oh); (case oh => with_reducible assumption)) | ((with_reducible refine' Mine.big_ten ?oh); (case oh => with_reducible assumption)) | ((with_reducible refine' Int.ne_of_gt ?_); k_extra "ltc") | ((with_reducible refine' Int.le_of_lt ?_); k_extra "ltc") | with_reducible exact Int.le_refl _ | with_reducible exact Nat.le_succ _ | with_reducible exact Nat.zero_add _ | fail "mine")
  k_with "call builtin:sorted" => ((k_here; (refine' sorted_led ?F ?N ?m ?i ?b ?_; (case F => k_asm); (case N => k_asm); (case m => k_mem); (case i => k_asm); (case b => k_asm); k_whole); intro wD' wvs' wc' wh' wF' wN' wl1' wi'; (try k_lt wl1'); (try dsimp only)))
  k_with "TurnG" => (first | ((with_reducible show TurnG _ _ _ _ _ _ _ (Flow.ret _) _); dsimp only [TurnG]) | ((with_reducible show TurnG _ _ _ _ _ _ _ Flow.brk _); dsimp only [TurnG]))
  k_with "exec Assign cons ListComp" => ((k_here; k_dflt (first
  | (refine LCt.Assign_ListComp_T (F₀ := by k_asm) (by rfl) (by with_unfolding_all rfl) (by with_unfolding_all rfl) (by decide) (by rfl) (by decide) (by rfl) (by rfl) (by rfl) ?_)
  | (refine LCg.Assign_ListComp_U (F₀ := by k_asm) (by rfl) (by with_unfolding_all rfl) (by with_unfolding_all rfl) (by decide) (by rfl) (by decide) (by rfl) (by rfl) (by rfl) ?_))))
  k_with "eval ListComp" => ((k_here; k_dflt (first
  | (refine LCt.ListComp_T (F₀ := by k_asm) (by with_unfolding_all rfl) (by decide) (by rfl) (by decide) (by rfl) ?_)
  | (refine LCg.ListComp_U (F₀ := by k_asm) (by with_unfolding_all rfl) (by decide) (by rfl) (by decide) (by rfl) ?_))))
  k_with "CompSrcT" => (fail "mine: by hand")
  k_with "CompSrc" => (fail "mine: by hand")
  k_with "call builtin:len" => ((k_here; k_dflt (refine' len_led ?N ?m ?b ?_; (case N => k_asm); (case m => k_mem); (case b => first | omega | ((simp only [sxs_size, rxs_size, List.size_toArray, List.length_map, Array.size_push]); omega)); k_whole)))
  k_with "compareOp In int ref" => ((k_here; k_dflt (refine' in_led ?N ?m ?i ?_; (case N => k_asm); (case m => k_mem); (case i => k_asm); k_whole)))
  k_with "compareOp NotIn int ref" => ((k_here; k_dflt (refine' notin_led ?N ?m ?i ?_; (case N => k_asm); (case m => k_mem); (case i => k_asm); k_whole)))
  k_with "setItem ref int" => ((k_here; k_dflt (refine' kda_set (knd := PySem.intKind _ _) ?F ?N ?U ?d (intKind_is _ _ _ _) ?z ?_; (case F => k_asm); (case N => k_asm); (case U => k_updF); (case d => k_asm); (case z => k_asm)); intro wh' wo' wF' wN' whd'; (try dsimp only at wN'); (try k_sweep); (try dsimp only)))
  k_with "setItem ref str" => ((k_here; k_dflt (refine' kda_set (knd := PySem.strKind _ _) ?F ?N ?U ?d (strKind_is _ _ _ _) ?z ?_; (case F => k_asm); (case N => k_asm); (case U => k_updF); (case d => k_asm); (case z => rw [sizeLine_eq]; exact Nat.le_of_ble_eq_true (by with_unfolding_all rfl))); intro wh' wo' wF' wN' whd'; (try first | rw [stored_cond] at whd' | rw [stored_ign] at whd' | rw [stored_hits] at whd' | rw [stored_on] at whd' | rw [stored_trb] at whd'); (try dsimp only at whd'); (try dsimp only at wN'); (try k_sweep); (try dsimp only)))
  k_with "subscriptTail Name" => ((k_here; (with_reducible show wpAny _ _ (subscriptTail _ _ (Value.ref _) (Value.str _ _)) _ _ _); k_dflt (refine kda_item (knd := PySem.strKind _ _) (by k_asm) (by k_mem) (by k_asm) (strKind_is _ _ _ _) (by rfl) ?_); (try dsimp only)))
  k_with "getItem ref str" => ((k_here; k_dflt (refine kdt_getItem (knd := PySem.strKind _ _) (by k_asm) (by k_mem) (by k_asm) (strKind_is _ _ _ _) (by rfl) ?_); (try dsimp only)))
  k_with "subscriptTail" => ((k_here; (with_reducible show wpAny _ _ (subscriptTail _ _ (Value.ref _) (Value.int _ _)) _ _ _); k_dflt (first
  | (refine' item_menu menu6 6 ?N ?m ?a ?b ?c (menu6_at _ _ _ _ _ _) ?_ (by with_unfolding_all rfl); (case N => k_asm); (case m => k_mem); (case a => exact fmod_ge _ _ (by decide)); (case b => exact fmod_lt' _ _ (by decide)); (case c => decide); k_whole)
  | (refine' item_menu menu2 2 ?N ?m ?a ?b ?c (menu2_at _ _) ?_ (by with_unfolding_all rfl); (case N => k_asm); (case m => k_mem); (case a => exact fmod_ge _ _ (by decide)); (case b => exact fmod_lt' _ _ (by decide)); (case c => decide); k_whole)
  | (refine' item_menu kindOf 2 ?N ?m ?a ?b ?c (kinds_at _ _) ?_ (by with_unfolding_all rfl); (case N => k_asm); (case m => k_mem); (case a => exact fmod_ge _ _ (by decide)); (case b => exact fmod_lt' _ _ (by decide)); (case c => decide); k_whole)); intro wtz'; (try dsimp only)))
  k_with "subscriptTail Name Name" => ((k_here; (with_reducible show wpAny _ _ (subscriptTail _ _ (Value.ref _) (Value.int _ _)) _ _ _); k_dflt (refine' item_int ?N ?m ?i ?a ?b ?c ?_ (by with_unfolding_all rfl); (case N => k_asm); (case m => k_mem); (case i => k_asm); (case a => omega); (case b => first | omega | (simp only [List.size_toArray] at *; omega)); (case c => omega); k_whole); intro wtz' whz'; (try dsimp only)))
  k_with "eval Name" => ((k_here; k_dflt (refine' ld ?k1 ?k2 ?_; (case k1 => k_asm); (case k2 => assumption); k_whole)))
  k_with "call builtin:list.append" => ((k_here; (with_reducible show wpAny _ _ (call (Value.builtin _) [Value.ref _, _]) _ _ _); k_dflt (refine' append_K ?k1 ?k2 ?k3 ?_ ?z; (case k1 => k_asm); (case k2 => k_asm); (case k3 => k_upd); (case z => first | size_fits | ((rw [sizeLine_eq]; simp only [List.size_toArray]); omega)); k_whole); intro wh' wF' wN'; (try k_sweep)))
  k_with "call builtin:dict.get" => (((fail_if_success (with_reducible show wpAny _ _ (call (Value.builtin _) [_, Value.str (PySem.Str.ofString _) _, _]) _ _ _)); refine stopHere ?_))
  trivial
set_option maxRecDepth 100000 in
set_option maxHeartbeats 8000000 in
theorem asks_spec {rx rp : Addr} {i : Dat} {t : VTok} {o : Obj}
    (B : Below A₀ base outer h₀) (F : Fr h₀ L s.heap m) (X : (hd.heap_39 w.params).In h₀) (N : News h₀ L s.heap ((rx, o) :: rest)) (T : TopM mean mg mb h₀) (hf : env.frame = some L) (hk : env.scope.kind = .function) (hd : d < 900)
    (hrx : ∀ p ∈ rest, p.1 ≠ rx) (ho : o.IsDictOf (strKind prg w) (rowKvs i rp t)) (hc : CondOk i.cond) (h0 : 0 ≤ i.ign) (h1 : i.ign < 1000) (h2 : 0 ≤ i.hits) (h3 : i.hits < 1000)
    (h : ∀ h' tk o' t', Fr h₀ L h' m → News h₀ L h' ((rx, o') :: rest) → o'.IsDictOf (strKind prg w) (rowKvs (askS i) rp t') → Q (.bool (askR i)) { s with heap := h', toks := tk }) :
    wpAny (model prg w) (Ar d (env :: outer) gd u) (call (.ref 194) [.ref rx] []) Q E s := by
  obtain ⟨num, kind, text, cond, ign, hits, on, trb⟩ := i
  dsimp only at hc h0 h1 h2 h3
  refine wpAny_call ?_
  refine code_def (binds := [(Str.ofString "row", .ref rx)]) B F X N T rfl hf hk (by k_is) (by k_is) (by k_room) (BindsTo.of_eq rfl) (locs rfl) ?_ rfl rfl rfl (by decide)
  intro g' L' h' FG' F' N' B' X' T'
  dsimp only
  all_goals try k_fold
  k_steps
  unfold Halt
  refine cutV (P := fun v => ∃ t, v = Value.str (troubleOf cond) t) ?_ ?_
  · rcases hc with rfl | rfl | rfl | rfl | rfl | rfl
    all_goals k_steps
    all_goals exact ⟨_, rfl, _, rfl⟩
  rintro v tk' ⟨tq, rfl⟩
  dsimp only
  k_steps
  · rename (cond == _) = true => q
    simp only [askS, askR, if_pos (beq_iff_eq.mp q)] at h
    exact h _ _ _ ⟨_, _, _, _, _, _, _⟩ (by assumption) (newsTail (by assumption)) (by assumption)
  · rename (cond == _) = false => q
    rename 0 < ign => q2
    simp only [askS, askR, if_neg (beq_eq_false_iff_ne.mp q), if_pos q2] at h
    exact h _ _ _ ⟨_, _, _, _, _, _, _⟩ (by assumption) (newsTail (by assumption)) (by assumption)
  · rename (cond == _) = false => q
    rename ¬ 0 < ign => q2
    simp only [askS, askR, if_neg (beq_eq_false_iff_ne.mp q), if_neg q2] at h
    exact h _ _ _ ⟨_, _, _, _, _, _, _⟩ (by assumption) (newsTail (by assumption)) (by assumption)
-- part Exc4
theorem words_Exc4 : True := by
  k_with_none
  k_with "spliced" => (refine args_nil ?_; (try dsimp only [List.cons_append, List.nil_append]))
  k_with "mem" => ((refine memL ?_); with_reducible assumption)
  k_with "all" => (first | with_reducible assumption | exact Mine.neAll (by with_reducible assumption) | fail "mine")
  k_with "put" => (first | exact put_last | exact put_rows | exact put_cond | exact put_ign | exact put_hits | exact put_on | exact put_trb | fail "mine")
  k_with "room" => (first | exact Mine.rm 0 (by exact rfl) (by with_reducible assumption) (by exact rfl) | exact Mine.rm 1 (by exact rfl) (by with_reducible assumption) (by exact rfl) | exact Mine.rm 2 (by exact rfl) (by with_reducible assumption) (by exact rfl) | exact Mine.rm 3 (by exact rfl) (by with_reducible assumption) (by exact rfl) | exact Mine.rm 4 (by exact rfl) (by with_reducible assumption) (by exact rfl) | (simp only [depth_under_make, depth_under_kw, depth_in1, depth_deeper, recursionLimit]; omega))
  k_with "size" => (first | with_reducible assumption | with_reducible exact Mine.sz0 | with_reducible exact Mine.sz1 | with_reducible exact Mine.sz2 | with_reducible exact Mine.sz3 | with_reducible exact Mine.sz4 | with_reducible exact Mine.sz5 | with_reducible exact Mine.sz6 | exact Mine.sz_lt (by with_reducible assumption) (by exact rfl) | exact Mine.sz_le (by with_reducible assumption) (by exact rfl) | fail "mine")
  k_with "lt" => ((rename AllLt _ _ => hlt9); (try dsimp only [AllLt] at hlt9); (try simp only [and_true] at hlt9); (try first | (have hz8 := AllLt.lt (hlt9)) | (have hz8 := AllLt.lt (hlt9).2) | (have hz8 := AllLt.lt (hlt9).2.2) | (have hz8 := AllLt.lt (hlt9).2.2.2) | (have hz8 := AllLt.lt (hlt9).2.2.2.2) | (have hz8 := AllLt.lt (hlt9).2.2.2.2.2) | (have hz8 := AllLt.lt (hlt9).2.2.2.2.2.2) | (have hz8 := AllLt.lt (hlt9).2.2.2.2.2.2.2) | (have hz8 := AllLt.lt (hlt9).2.2.2.2.2.2.2.2) | (have hz8 := AllLt.lt (hlt9).2.2.2.2.2.2.2.2.2) | (have hz8 := AllLt.lt (hlt9).2.2.2.2.2.2.2.2.2.2) | (have hz8 := AllLt.lt (hlt9).2.2.2.2.2.2.2.2.2.2.2) | (have hz8 := AllLt.lt (hlt9).2.2.2.2.2.2.2.2.2.2.2.2)))
  k_with "ltc" => (first | with_reducible assumption | exact And.left (by with_reducible assumption) | exact And.left (And.right (by with_reducible assumption)) | exact And.left (And.right (And.right (by with_reducible assumption))) | exact And.left (And.right (And.right (And.right (by with_reducible assumption)))) | exact And.left (And.right (And.right (And.right (And.right (by with_reducible assumption))))) | exact And.left (And.right (And.right (And.right (And.right (And.right (by with_reducible assumption)))))) | exact And.left (And.right (And.right (And.right (And.right (And.right (And.right (by with_reducible assumption))))))) | exact And.left (And.right (And.right (And.right (And.right (And.right (And.right (And.right (by with_reducible assumption)))))))) | exact And.left (And.right (And.right (And.right (And.right (And.right (And.right (And.right (And.right (by with_reducible assumption))))))))) | exact And.left (And.right (And.right (And.right (And.right (And.right (And.right (And.right (And.right (And.right (by with_reducible assumption)))))))))) | exact And.right (by with_reducible assumption) | exact And.right (And.right (by with_reducible assumption)) | exact And.right (And.right (And.right (by with_reducible assumption))) | exact And.right (And.right (And.right (And.right (by with_reducible assumption)))) | exact And.right (And.right (And.right (And.right (And.right (by with_reducible assumption))))) | exact And.right (And.right (And.right (And.right (And.right (And.right (by with_reducible assumption)))))) | exact And.right (And.right (And.right (And.right (And.right (And.right (And.right (by with_reducible assumption))))))) | exact And.right (And.right (And.right (And.right (And.right (And.right (And.right (And.right (by with_reducible assumption)))))))) | exact And.right (And.right (And.right (And.right (And.right (And.right (And.right (And.right (And.right (by with_reducible assumption))))))))) | fail "mine")
  k_with "ne" => (first | k_extra "ltc" | ((with_reducible refine' Ne.symm ?_); k_extra "ltc") | ((with_reducible refine' Nat.ne_of_gt ?_); k_extra "ltc") | ((with_reducible refine' Nat.ne_of_lt ?_); k_extra "ltc") | ((with_reducible refine' Nat.ne_of_gt (Nat.lt_succ_of_lt ?_)); k_extra "ltc") | fail "mine")
  k_with "omega" => (first | k_extra "ltc" | with_reducible decide | k_extra "ne" | k_extra "bd" | fail "mine")
  k_with "bd" => (first | with_reducible exact Mine.p7 | ((with_reducible refine' Mine.o1 ?oh ?oe); (case oh => with_reducible assumption); (case oe => exact rfl)) | ((with_reducible refine' Mine.o2 ?oh ?oe); (case oh => with_reducible assumption); (case oe => exact rfl)) | ((with_reducible refine' Mine.o3 ?oh ?oe); (case oh => with_reducible assumption); (case oe => exact rfl)) | ((with_reducible refine' Mine.o4 ?oh ?oe); (case oh => with_reducible assumption); (case oe => exact rfl)) | ((with_reducible refine' Mine.o5 ?oh ?oe); (case oh => with_reducible assumption); (case oe => exact rfl)) | ((with_reducible refine' Mine.o6 ?oh ?oe); (case oh => with_reducible assumption); (case oe => exact rfl)) | ((with_reducible refine' Mine.o7 ?oh ?oe); (case oh => with_reducible assumption); (case oe => exact rfl)) | ((with_reducible refine' Mine.p1 ?oh ?oe); (case oh => with_reducible assumption); (case oe => exact rfl)) | ((with_reducible refine' Mine.p4 ?oh ?oe); (case oh => with_reducible assumption); (case oe => exact rfl)) | ((with_reducible refine' Mine.p6 ?oh ?oe); (case oh => with_reducible assumption); (case oe => exact rfl)) | ((with_reducible refine' Mine.r6 ?oh ?oe); (case oh => with_reducible assumption); (case oe => exact rfl)) | ((with_reducible refine' Mine.r13 ?oh ?oe); (case oh => with_reducible assumption); (case oe => exact rfl)) | ((with_reducible refine' Mine.r14 ?oh ?oe); (case oh => with_reducible assumption); (case oe => exact rfl)) | ((with_reducible refine' Mine.r15 ?oh ?oe); (case oh => with_reducible assumption); (case oe => exact rfl)) | ((with_reducible refine' Mine.r18 ?oh ?oe); (case oh => with_reducible assumption); (case oe => exact rfl)) | ((with_reducible refine' Mine.r19 ?oh ?oe); (case oh => with_reducible assumption); (case oe => exact rfl)) | ((with_reducible refine' Mine.r20 ?oh ?oe); (case oh => with_reducible assumption); (case oe => exact rfl)) | ((with_reducible refine' Mine.r21 ?oh ?oe); (case oh => with_reducible assumption); (case oe => exact rfl)) | ((with_reducible refine' Mine.o8 ?og ?oh ?oe); (case og => with_reducible assumption); (case oh => with_reducible assumption); (case oe => exact rfl)) | ((with_reducible refine' Mine.o9 ?og ?oh ?oe); (case og => with_reducible assumption); (case oh => with_reducible assumption); (case oe => exact rfl)) | ((with_reducible refine' Mine.p5 ?og ?oh ?oe); (case og => with_reducible assumption); (case oh => with_reducible assumption); (case oe => exact rfl)) | ((with_reducible refine' Mine.r5 ?og ?oh ?oe); (case og => with_reducible assumption); (case oh => with_reducible assumption); (case oe => exact rfl)) | ((with_reducible refine' Mine.r1 ?og ?oh); (case og => with_reducible assumption); (case oh => with_reducible assumption)) | ((with_reducible refine' Mine.r3 ?og ?oh); (case og => with_reducible assumption); (case oh => with_reducible assumption)) | ((with_reducible refine' Nat.le_trans ?og ?oh); (case og => with_reducible assumption); (case oh => with_reducible assumption)) | ((with_reducible refine' Mine.r22 ?oh); (case oh => with_reducible assumption)) | ((with_reducible refine' Mine.r23 ?oh); (case oh => with_reducible assumption)) | ((with_reducible refine' Mine.big_lo ?oh); (case oh => with_reducible assumption)) | ((with_reducible refine' Mine.big_hi ?oh); (case oh => with_reducible assumption)) | ((with_reducible refine' Mine.big_ten ?oh); (case oh => with_reducible assumption)) | ((with_reducible refine' Int.ne_of_gt ?_); k_extra "ltc") | ((with_reducible refine' Int.le_of_lt ?_); k_extra "ltc") | with_reducible exact Int.le_refl _ | with_reducible exact Nat.le_succ _ | with_reducible exact Nat.zero_add _ | fail "mine")
  trivial
theorem mapFields_dict (o : Obj) (f : Array Value → Array Value) : (Obj.mapFields f o).dict = o.dict := by
  refine hold fun H9 hH9 => ?_
  obtain ⟨c, dd, dt, sl⟩ := o
  refine hH9 ?_
  clear hH9 H9
  cases dt <;> rfl

/-- an own exception on its way: its class, its dict, the last entry of its way -/
structure Tr (B : Heap) (l : List Env) (e C : Addr) (dd : Option Addr) (fl : Value) (h : Heap) : Prop where
  stays : B.StaysIn h
  new : B.get? e = none
  frames : h.FunFrames B l
  tr : ∃ oe vs T oT ts, h.get? e = some oe ∧ oe.cls = .ref C ∧ oe.dict = dd ∧ oe.data = .fields vs ∧ vs[1]? = some (.ref T) ∧ B.get? T = none ∧ T ≠ e ∧ h.get? T = some oT ∧ oT.data = .fields ts ∧ ts[3]? = some fl

section
variable {M : Model} {A : Around} {B : Heap} {l : List Env} {e C : Addr} {dd : Option Addr} {fl head : Value} {hadNext : Bool} {oe : Obj} {vs : Array Value} {Q : Unit → Shared → Prop}

/-- one more entry of an exception's way, of the frame that runs -/
theorem tr_entry (hfr : A.frames = some (env :: outer)) (hl : s.heap.FunFrames B (env :: outer)) (hf : env.frame = some L)
    (he : s.heap.get? e = some oe) (hkb : B.StaysIn s.heap) (hen : B.get? e = none) (hcl : oe.cls = .ref C) (hdi : oe.dict = dd) (hd : oe.data = .fields vs) (hsz : 1 < vs.size)
    (h : ∀ h', Tr B (env :: outer) e C dd (rawInt L) h' → s.heap.UpToSlots h' → Q () { s with heap := h' }) :
    wpAny M A (do let a ← frameOf env; let pl ← entryPlaceOf L hadNext; let b ← EntryCells.newEntry head a .none (rawInt L) .none pl; setField (.ref e) 1 b) Q E s := by
  have hene : e ∉ (env :: outer).filterMap (·.frame) := fun hm => by
    refine hold fun H9 hH9 => ?_
    obtain ⟨_, o, ho, hnf⟩ := hl.mem hm
    refine hH9 ?_
    clear hH9 H9
    rw [he] at ho; injection ho with ho; subst ho; exact hnf vs hd
  refine wpAny_bind (wpAny_frameOf_fun hfr hl hf fun h₁ hs₁ => ?_)
  refine wpAny_bind (wpAny_entryPlaceOf fun pl hpl => ?_)
  unfold EntryCells.newEntry newFields
  refine wpAny_bind (wpAny_newObj_type ?_ (hpl.sizeOk5 _ _ _ _ _))
  generalize hte : ([head, .ref L, .none, rawInt L, .none] ++ (if pl.isEmpty then List.replicate 6 Value.none else pl)).toArray = te
  have te3 : te[3]? = some (rawInt L) := by subst hte; simp
  have he₁ : h₁.get? e = some oe := (hs₁.2.1 e hene).trans he
  have kb₁ : B.StaysIn h₁ := fun b o hbo => (hs₁.2.1 b fun hm => by rw [(hl.mem hm).1] at hbo; cases hbo).trans (hkb b o hbo)
  have he₂ := Heap.get?_push_of_some (h := h₁) { cls := .type "traceback", dict := none, data := .fields te } he₁
  have hTe : h₁.objs.size ≠ e := Nat.ne_of_gt (Heap.lt_size he₁)
  have hd₃ := Obj.data_mapFields hd (·.setIfInBounds 1 (Value.ref h₁.objs.size))
  have he₃ := Heap.get?_update_self (Obj.mapFields (·.setIfInBounds 1 (Value.ref h₁.objs.size))) he₂ (Obj.isFreed_of_fields hd₃)
  have hT₃ := (Heap.get?_update_other (h₁.push { cls := .type "traceback", dict := none, data := .fields te }) (Obj.mapFields (·.setIfInBounds 1 (Value.ref h₁.objs.size))) (Ne.symm hTe)).trans (Heap.get?_push_size h₁ rfl)
  refine wpAny_setField he₂ hd hsz (h _ ?_ ?_)
  · have keep : ∀ b o, b ≠ e → h₁.get? b = some o → ((h₁.push { cls := .type "traceback", dict := none, data := .fields te }).update e (Obj.mapFields (·.setIfInBounds 1 (Value.ref h₁.objs.size)))).get? b = some o :=
      fun b o hbe hb => by
        rw [Heap.get?_update_other _ _ (Ne.symm hbe)]
        exact Heap.get?_push_of_some _ hb
    have noRecord : ∀ b o, s.heap.get? b = some o → (∀ vs, o.data ≠ .fields vs) → b ≠ e := fun b o hb hnf q => by
      rw [q, he] at hb; injection hb with hb; subst hb; exact hnf vs hd
    refine ⟨fun b o hbo => keep b o (fun q => by rw [q, hen] at hbo; cases hbo) (kb₁ b o hbo), hen, hl.of_keeps fun b o hb hnf => ?_, ?_⟩
    · obtain ⟨sl, hs⟩ := hs₁.2.2 b o hb
      exact ⟨_, keep b _ (noRecord b o hb hnf) hs, rfl⟩
    · exact ⟨_, _, h₁.objs.size, _, _, he₃, by rw [Obj.cls_mapFields]; exact hcl, by rw [mapFields_dict]; exact hdi, hd₃, by simp [hsz], kb₁.fresh, hTe, hT₃, rfl, te3⟩
  · intro b o hb hnf
    obtain ⟨sl, hs⟩ := hs₁.2.2 b o hb
    refine ⟨sl, ?_⟩
    have hbe : b ≠ e := fun q => by rw [q, he] at hb; injection hb with hb; subst hb; exact hnf vs hd
    rw [Heap.get?_update_other _ _ (Ne.symm hbe)]
    exact Heap.get?_push_of_some _ hs

theorem tr_flight (T : Tr B l e C dd fl s.heap) (h : ∀ h', Tr B l e C dd .none h' → s.heap.UpToSlots h' → Q () { s with heap := h' }) : wpAny M A (setFlight (.ref e) none) Q E s := by
  refine hold fun H9 hH9 => ?_
  obtain ⟨hkb, hen, hl, oe, vs, T, oT, ts, he, hcl, hdi, hd, h1, hnT, hTe, hT, hdT, h3⟩ := T
  refine hH9 ?_
  clear hH9 H9
  have hsz3 : 3 < ts.size := (Array.getElem?_eq_some_iff.mp h3).1
  have other : ∀ b, b ≠ T → (s.heap.update T (Obj.mapFields (·.setIfInBounds 3 ((none : Option Addr).elim Value.none fun f => rawInt f)))).get? b = s.heap.get? b :=
    fun b hb => Heap.get?_update_other _ _ (Ne.symm hb)
  have noRecord : ∀ b o, s.heap.get? b = some o → (∀ vs, o.data ≠ .fields vs) → b ≠ T := fun b o hb hnf q => by
    rw [q, hT] at hb; injection hb with hb; subst hb; exact hnf ts hdT
  unfold setFlight
  refine wpAny_bind (wpAny_field he hd h1 ?_)
  rw [if_pos (show (Value.ref T != Value.none) = true from by simp)]
  refine wpAny_setField hT hdT hsz3 (h _ ⟨fun b o hbo => (other b fun q => by rw [q, hnT] at hbo; cases hbo).trans (hkb b o hbo), hen,
    hl.of_keeps fun b o hb hnf => ⟨o, (other b (noRecord b o hb hnf)).trans hb, rfl⟩, ?_⟩ fun b o hb hnf => ⟨o.slots, (other b (noRecord b o hb hnf)).trans hb⟩)
  exact ⟨oe, vs, T, _, _, (other e (Ne.symm hTe)).trans he, hcl, hdi, hd, h1, hnT, hTe, Heap.get?_update_self _ hT (Obj.isFreed_of_fields (Obj.data_mapFields hdT _)), Obj.data_mapFields hdT _, by simp [hsz3]⟩

theorem tr_first (hfr : A.frames = some (env :: outer)) (hl : s.heap.FunFrames B (env :: outer)) (hf : env.frame = some L)
    (he : s.heap.get? e = some oe) (hkb : B.StaysIn s.heap) (hen : B.get? e = none) (hcl : oe.cls = .ref C) (hdi : oe.dict = dd) (hd : oe.data = .fields vs) (h1 : vs[1]? = some .none)
    (h : ∀ h', Tr B outer e C dd .none h' → s.heap.UpToSlots h' → Q () { s with heap := h' }) : wpAny M A (leaving env (.ref e)) Q E s := by
  unfold leaving noteFrame
  simp only [hf]
  refine wpAny_bind (wpAny_bind (wpAny_field he hd h1 ?_))
  rw [if_neg (by decide)]
  refine tr_entry hfr hl hf he hkb hen hcl hdi hd (Array.getElem?_eq_some_iff.mp h1).1 fun h' T u => ?_
  refine tr_flight T fun h2 T2 u2 => h h2 ?_ (u.trans u2)
  refine hold fun H9 hH9 => ?_
  obtain ⟨a, b, ⟨_, _, c⟩, d⟩ := T2
  refine hH9 ?_
  clear hH9 H9
  exact ⟨a, b, c, d⟩

theorem tr_note (hfr : A.frames = some (env :: outer)) (hf : env.frame = some L) (T : Tr B (env :: outer) e C dd .none s.heap)
    (h : ∀ h', Tr B (env :: outer) e C dd (rawInt L) h' → s.heap.UpToSlots h' → Q () { s with heap := h' }) : wpAny M A (noteFrame (.ref e) env) Q E s := by
  refine hold fun H9 hH9 => ?_
  obtain ⟨hkb, hen, hl, oe, vs, T, oT, ts, he, hcl, hdi, hd, h1, hnT, hTe, hT, hdT, h3⟩ := T
  refine hH9 ?_
  clear hH9 H9
  unfold noteFrame
  simp only [hf]
  refine wpAny_bind (wpAny_field he hd h1 ?_)
  rw [if_pos (show (Value.ref T != Value.none) = true from by simp)]
  refine wpAny_bind (wpAny_field hT hdT h3 ?_)
  rw [if_neg (show ¬ ((Value.none == rawInt L) = true) from by simp [rawInt])]
  refine wpAny_bind (wpAny_setField hT hdT (Array.getElem?_eq_some_iff.mp h3).1 ?_)
  have other : ∀ b, b ≠ T → (s.heap.update T (Obj.mapFields (·.setIfInBounds 3 Value.none))).get? b = s.heap.get? b := fun b hb => Heap.get?_update_other _ _ (Ne.symm hb)
  have noRecord : ∀ b o, s.heap.get? b = some o → (∀ vs, o.data ≠ .fields vs) → b ≠ T := fun b o hb hnf q => by
    rw [q, hT] at hb; injection hb with hb; subst hb; exact hnf ts hdT
  refine tr_entry hfr (hl.of_keeps fun b o hb hnf => ⟨o, (other b (noRecord b o hb hnf)).trans hb, rfl⟩) hf ((other e (Ne.symm hTe)).trans he)
    (fun b o hbo => (other b fun q => by rw [q, hnT] at hbo; cases hbo).trans (hkb b o hbo)) hen hcl hdi hd (Array.getElem?_eq_some_iff.mp h1).1
    fun h' T' u => h h' T' fun b o hb hnf => u b o ((other b (noRecord b o hb hnf)).trans hb) hnf
end
-- part Exc5
/-- an own exception that has left a frame below these: everything of G but those frames stays -/
def Raised (base G : Heap) (l : List Env) (e C D : Addr) (oD : Obj) (news : List (Addr × Obj)) (h : Heap) : Prop :=
  ∃ B, base.StaysIn B ∧ (∀ b o, G.get? b = some o → b ∉ l.filterMap (·.frame) → B.get? b = some o) ∧ (∀ q ∈ (D, oD) :: news, B.get? q.1 = some q.2 ∧ G.get? q.1 = none) ∧ G.get? e = none ∧ Tr B l e C (some D) .none h ∧ G.UpToSlots h

section
variable {M : Model} {A : Around} {e C D t a : Addr} {oD : Obj} {s' : Shared} {g : Heap} {name : Str} {scope : Scope} {cd : Value} {Q : Unit → Shared → Prop}
theorem leave_own (K : Below A base outer g) (F : Fr g L s'.heap m) (N : News g L s'.heap ((D, oD) :: (e, excO C (some D) (exv t)) :: news)) (hDe : ∀ p ∈ (D, oD) :: news, p.1 ≠ e)
    (hQ : ∀ h', Raised base g outer e C D oD news h' → Q () { s' with heap := h' }) (hk : scope.kind = .function) :
    wpAny M (A.deeper (envOf name scope L a cd)) (leaving (envOf name scope L a cd) (.ref e)) Q E s' := by
  have K' := K.push (name := name) (a := a) (cd := cd) F hk
  have he := N (e, excO C (some D) (exv t)) (List.mem_cons_of_mem _ List.mem_cons_self)
  have nfr : ∀ q ∈ (D, oD) :: (e, excO C (some D) (exv t)) :: news, q.1 ∉ (envOf name scope L a cd :: outer).filterMap (·.frame) := fun q hq hm => by
    rcases kts_mem (a := a) hm with z | z
    · exact (N q hq).2.1 z
    · obtain ⟨o, ho, _⟩ := (K.frames.mem z).2
      rw [(N q hq).2.2] at ho; cases ho
  have hin : ∀ env ∈ (envOf name scope L a cd :: outer), ∀ b, env.frame = some b → b ∈ e :: (envOf name scope L a cd :: outer).filterMap (·.frame) := fun env he b hb => List.mem_cons_of_mem _ (List.mem_filterMap.mpr ⟨env, he, hb⟩)
  have gb : ∀ b, g.get? b = none → base.get? b = none := fun b hb => kts_none K.stays hb
  have st : base.StaysIn (hideAll s'.heap (e :: (envOf name scope L a cd :: outer).filterMap (·.frame))) := fun b o q => hideAll_get _ (K'.stays b o q) fun hm => by
    rcases List.mem_cons.mp hm with rfl | hm
    · rw [gb _ he.2.2] at q; cases q
    · rw [(K'.frames.mem hm).1] at q; cases q
  have sg : ∀ b o, g.get? b = some o → b ∉ outer.filterMap (·.frame) → (hideAll s'.heap (e :: (envOf name scope L a cd :: outer).filterMap (·.frame))).get? b = some o := fun b o q nm => hideAll_get _ (F.keep b o q) fun hm => by
    rcases List.mem_cons.mp hm with rfl | hm
    · rw [he.2.2] at q; cases q
    · rcases kts_mem (a := a) hm with z | z
      · rw [z, kts_self F] at q
        cases q
      · exact nm z
  have hl : ∀ q ∈ (D, oD) :: news, (hideAll s'.heap (e :: (envOf name scope L a cd :: outer).filterMap (·.frame))).get? q.1 = some q.2 ∧ g.get? q.1 = none := fun q hq => by
    have hq' : q ∈ (D, oD) :: (e, excO C (some D) (exv t)) :: news := by
      rcases List.mem_cons.mp hq with rfl | hq
      · exact List.mem_cons_self
      · exact List.mem_cons_of_mem _ (List.mem_cons_of_mem _ hq)
    refine ⟨hideAll_get _ (N q hq').1 fun hm => ?_, (N q hq').2.2⟩
    rcases List.mem_cons.mp hm with z | hm
    · exact hDe q hq z
    · exact nfr q hq' hm
  refine tr_first (B := hideAll s'.heap (e :: (envOf name scope L a cd :: outer).filterMap (·.frame))) K'.stack (funFrames_hide K'.frames hin) rfl he.1 (fun b o q => of_hideAll _ q) (hideAll_none _ List.mem_cons_self) rfl rfl rfl rfl fun h' T u => ?_
  exact hQ h' ⟨_, st, sg, hl, he.2.2, T, (Heap.UpToSlots.of_keeps F.keep).trans u⟩
end
-- part Exc6
theorem words_Exc6 : True := by
  k_with_none
  k_with "spliced" => (refine args_nil ?_; (try dsimp only [List.cons_append, List.nil_append]))
  k_with "mem" => ((refine memL ?_); with_reducible assumption)
  k_with "all" => (first | with_reducible assumption | exact Mine.neAll (by with_reducible assumption) | fail "mine")
  k_with "put" => (first | exact put_last | exact put_rows | exact put_cond | exact put_ign | exact put_hits | exact put_on | exact put_trb | fail "mine")
  k_with "room" => (first | exact Mine.rm 0 (by exact rfl) (by with_reducible assumption) (by exact rfl) | exact Mine.rm 1 (by exact rfl) (by with_reducible assumption) (by exact rfl) | exact Mine.rm 2 (by exact rfl) (by with_reducible assumption) (by exact rfl) | exact Mine.rm 3 (by exact rfl) (by with_reducible assumption) (by exact rfl) | exact Mine.rm 4 (by exact rfl) (by with_reducible assumption) (by exact rfl) | (simp only [depth_under_make, depth_under_kw, depth_in1, depth_deeper, recursionLimit]; omega))
  k_with "size" => (first | with_reducible assumption | with_reducible exact Mine.sz0 | with_reducible exact Mine.sz1 | with_reducible exact Mine.sz2 | with_reducible exact Mine.sz3 | with_reducible exact Mine.sz4 | with_reducible exact Mine.sz5 | with_reducible exact Mine.sz6 | exact Mine.sz_lt (by with_reducible assumption) (by exact rfl) | exact Mine.sz_le (by with_reducible assumption) (by exact rfl) | fail "mine")
  k_with "lt" => ((rename AllLt _ _ => hlt9); (try dsimp only [AllLt] at hlt9); (try simp only [and_true] at hlt9); (try first | (have hz8 := AllLt.lt (hlt9)) | (have hz8 := AllLt.lt (hlt9).2) | (have hz8 := AllLt.lt (hlt9).2.2) | (have hz8 := AllLt.lt (hlt9).2.2.2) | (have hz8 := AllLt.lt (hlt9).2.2.2.2) | (have hz8 := AllLt.lt (hlt9).2.2.2.2.2) | (have hz8 := AllLt.lt (hlt9).2.2.2.2.2.2) | (have hz8 := AllLt.lt (hlt9).2.2.2.2.2.2.2) | (have hz8 := AllLt.lt (hlt9).2.2.2.2.2.2.2.2) | (have hz8 := AllLt.lt (hlt9).2.2.2.2.2.2.2.2.2) | (have hz8 := AllLt.lt (hlt9).2.2.2.2.2.2.2.2.2.2) | (have hz8 := AllLt.lt (hlt9).2.2.2.2.2.2.2.2.2.2.2) | (have hz8 := AllLt.lt (hlt9).2.2.2.2.2.2.2.2.2.2.2.2)))
  k_with "ltc" => (first | with_reducible assumption | exact And.left (by with_reducible assumption) | exact And.left (And.right (by with_reducible assumption)) | exact And.left (And.right (And.right (by with_reducible assumption))) | exact And.left (And.right (And.right (And.right (by with_reducible assumption)))) | exact And.left (And.right (And.right (And.right (And.right (by with_reducible assumption))))) | exact And.left (And.right (And.right (And.right (And.right (And.right (by with_reducible assumption)))))) | exact And.left (And.right (And.right (And.right (And.right (And.right (And.right (by with_reducible assumption))))))) | exact And.left (And.right (And.right (And.right (And.right (And.right (And.right (And.right (by with_reducible assumption)))))))) | exact And.left (And.right (And.right (And.right (And.right (And.right (And.right (And.right (And.right (by with_reducible assumption))))))))) | exact And.left (And.right (And.right (And.right (And.right (And.right (And.right (And.right (And.right (And.right (by with_reducible assumption)))))))))) | exact And.right (by with_reducible assumption) | exact And.right (And.right (by with_reducible assumption)) | exact And.right (And.right (And.right (by with_reducible assumption))) | exact And.right (And.right (And.right (And.right (by with_reducible assumption)))) | exact And.right (And.right (And.right (And.right (And.right (by with_reducible assumption))))) | exact And.right (And.right (And.right (And.right (And.right (And.right (by with_reducible assumption)))))) | exact And.right (And.right (And.right (And.right (And.right (And.right (And.right (by with_reducible assumption))))))) | exact And.right (And.right (And.right (And.right (And.right (And.right (And.right (And.right (by with_reducible assumption)))))))) | exact And.right (And.right (And.right (And.right (And.right (And.right (And.right (And.right (And.right (by with_reducible assumption))))))))) | fail "mine")
  k_with "ne" => (first | k_extra "ltc" | ((with_reducible refine' Ne.symm ?_); k_extra "ltc") | ((with_reducible refine' Nat.ne_of_gt ?_); k_extra "ltc") | ((with_reducible refine' Nat.ne_of_lt ?_); k_extra "ltc") | ((with_reducible refine' Nat.ne_of_gt (Nat.lt_succ_of_lt ?_)); k_extra "ltc") | fail "mine")
  k_with "omega" => (first | k_extra "ltc" | with_reducible decide | k_extra "ne" | k_extra "bd" | fail "mine")
  k_with "bd" => (first | with_reducible exact Mine.p7 | ((with_reducible refine' Mine.o1 ?oh ?oe); (case oh => with_reducible assumption); (case oe => exact rfl)) | ((with_reducible refine' Mine.o2 ?oh ?oe); (case oh => with_reducible assumption); (case oe => exact rfl)) | ((with_reducible refine' Mine.o3 ?oh ?oe); (case oh => with_reducible assumption); (case oe => exact rfl)) | ((with_reducible refine' Mine.o4 ?oh ?oe); (case oh => with_reducible assumption); (case oe => exact rfl)) | ((with_reducible refine' Mine.o5 ?oh ?oe); (case oh => with_reducible assumption); (case oe => exact rfl)) | ((with_reducible refine' Mine.o6 ?oh ?oe); (case oh => with_reducible assumption); (case oe => exact rfl)) | ((with_reducible refine' Mine.o7 ?oh ?oe); (case oh => with_reducible assumption); (case oe => exact rfl)) | ((with_reducible refine' Mine.p1 ?oh ?oe); (case oh => with_reducible assumption); (case oe => exact rfl)) | ((with_reducible refine' Mine.p4 ?oh ?oe); (case oh => with_reducible assumption); (case oe => exact rfl)) | ((with_reducible refine' Mine.p6 ?oh ?oe); (case oh => with_reducible assumption); (case oe => exact rfl)) | ((with_reducible refine' Mine.r6 ?oh ?oe); (case oh => with_reducible assumption); (case oe => exact rfl)) | ((with_reducible refine' Mine.r13 ?oh ?oe); (case oh => with_reducible assumption); (case oe => exact rfl)) | ((with_reducible refine' Mine.r14 ?oh ?oe); (case oh => with_reducible assumption); (case oe => exact rfl)) | ((with_reducible refine' Mine.r15 ?oh ?oe); (case oh => with_reducible assumption); (case oe => exact rfl)) | ((with_reducible refine' Mine.r18 ?oh ?oe); (case oh => with_reducible assumption); (case oe => exact rfl)) | ((with_reducible refine' Mine.r19 ?oh ?oe); (case oh => with_reducible assumption); (case oe => exact rfl)) | ((with_reducible refine' Mine.r20 ?oh ?oe); (case oh => with_reducible assumption); (case oe => exact rfl)) | ((with_reducible refine' Mine.r21 ?oh ?oe); (case oh => with_reducible assumption); (case oe => exact rfl)) | ((with_reducible refine' Mine.o8 ?og ?oh ?oe); (case og => with_reducible assumption); (case oh => with_reducible assumption); (case oe => exact rfl)) | ((with_reducible refine' Mine.o9 ?og ?oh ?oe); (case og => with_reducible assumption); (case oh => with_reducible assumption); (case oe => exact rfl)) | ((with_reducible refine' Mine.p5 ?og ?oh ?oe); (case og => with_reducible assumption); (case oh => with_reducible assumption); (case oe => exact rfl)) | ((with_reducible refine' Mine.r5 ?og ?oh ?oe); (case og => with_reducible assumption); (case oh => with_reducible assumption); (case oe => exact rfl)) | ((with_reducible refine' Mine.r1 ?og ?oh); (case og => with_reducible assumption); (case oh => with_reducible assumption)) | ((with_reducible refine' Mine.r3 ?og ?oh); (case og => with_reducible assumption); (case oh => with_reducible assumption)) | ((with_reducible refine' Nat.le_trans ?og ?oh); (case og => with_reducible assumption); (case oh => with_reducible assumption)) | ((with_reducible refine' Mine.r22 ?oh); (case oh => with_reducible assumption)) | ((with_reducible refine' Mine.r23 ?oh); (case oh => with_reducible assumption)) | ((with_reducible refine' Mine.big_lo ?oh); (case oh => with_reducible assumption)) | ((with_reducible refine' Mine.big_hi ?oh); (case oh => with_reducible assumption)) | ((with_reducible refine' Mine.big_ten ?oh); (case oh => with_reducible assumption)) | ((with_reducible refine' Int.ne_of_gt ?_); k_extra "ltc") | ((with_reducible refine' Int.le_of_lt ?_); k_extra "ltc") | with_reducible exact Int.le_refl _ | with_reducible exact Nat.le_succ _ | with_reducible exact Nat.zero_add _ | fail "mine")
  k_with "call builtin:sorted" => ((k_here; (refine' sorted_led ?F ?N ?m ?i ?b ?_; (case F => k_asm); (case N => k_asm); (case m => k_mem); (case i => k_asm); (case b => k_asm); k_whole); intro wD' wvs' wc' wh' wF' wN' wl1' wi'; (try k_lt wl1'); (try dsimp only)))
  k_with "TurnG" => (first | ((with_reducible show TurnG _ _ _ _ _ _ _ (Flow.ret _) _); dsimp only [TurnG]) | ((with_reducible show TurnG _ _ _ _ _ _ _ Flow.brk _); dsimp only [TurnG]))
  k_with "exec Assign cons ListComp" => ((k_here; k_dflt (first
  | (refine LCt.Assign_ListComp_T (F₀ := by k_asm) (by rfl) (by with_unfolding_all rfl) (by with_unfolding_all rfl) (by decide) (by rfl) (by decide) (by rfl) (by rfl) (by rfl) ?_)
  | (refine LCg.Assign_ListComp_U (F₀ := by k_asm) (by rfl) (by with_unfolding_all rfl) (by with_unfolding_all rfl) (by decide) (by rfl) (by decide) (by rfl) (by rfl) (by rfl) ?_))))
  k_with "eval ListComp" => ((k_here; k_dflt (first
  | (refine LCt.ListComp_T (F₀ := by k_asm) (by with_unfolding_all rfl) (by decide) (by rfl) (by decide) (by rfl) ?_)
  | (refine LCg.ListComp_U (F₀ := by k_asm) (by with_unfolding_all rfl) (by decide) (by rfl) (by decide) (by rfl) ?_))))
  k_with "CompSrcT" => (fail "mine: by hand")
  k_with "CompSrc" => (fail "mine: by hand")
  k_with "call builtin:len" => ((k_here; k_dflt (refine' len_led ?N ?m ?b ?_; (case N => k_asm); (case m => k_mem); (case b => first | omega | ((simp only [sxs_size, rxs_size, List.size_toArray, List.length_map, Array.size_push]); omega)); k_whole)))
  k_with "compareOp In int ref" => ((k_here; k_dflt (refine' in_led ?N ?m ?i ?_; (case N => k_asm); (case m => k_mem); (case i => k_asm); k_whole)))
  k_with "compareOp NotIn int ref" => ((k_here; k_dflt (refine' notin_led ?N ?m ?i ?_; (case N => k_asm); (case m => k_mem); (case i => k_asm); k_whole)))
  k_with "setItem ref int" => ((k_here; k_dflt (refine' kda_set (knd := PySem.intKind _ _) ?F ?N ?U ?d (intKind_is _ _ _ _) ?z ?_; (case F => k_asm); (case N => k_asm); (case U => k_updF); (case d => k_asm); (case z => k_asm)); intro wh' wo' wF' wN' whd'; (try dsimp only at wN'); (try k_sweep); (try dsimp only)))
  k_with "setItem ref str" => ((k_here; k_dflt (refine' kda_set (knd := PySem.strKind _ _) ?F ?N ?U ?d (strKind_is _ _ _ _) ?z ?_; (case F => k_asm); (case N => k_asm); (case U => k_updF); (case d => k_asm); (case z => rw [sizeLine_eq]; exact Nat.le_of_ble_eq_true (by with_unfolding_all rfl))); intro wh' wo' wF' wN' whd'; (try first | rw [stored_cond] at whd' | rw [stored_ign] at whd' | rw [stored_hits] at whd' | rw [stored_on] at whd' | rw [stored_trb] at whd'); (try dsimp only at whd'); (try dsimp only at wN'); (try k_sweep); (try dsimp only)))
  k_with "subscriptTail Name" => ((k_here; (with_reducible show wpAny _ _ (subscriptTail _ _ (Value.ref _) (Value.str _ _)) _ _ _); k_dflt (refine kda_item (knd := PySem.strKind _ _) (by k_asm) (by k_mem) (by k_asm) (strKind_is _ _ _ _) (by rfl) ?_); (try dsimp only)))
  k_with "getItem ref str" => ((k_here; k_dflt (refine kdt_getItem (knd := PySem.strKind _ _) (by k_asm) (by k_mem) (by k_asm) (strKind_is _ _ _ _) (by rfl) ?_); (try dsimp only)))
  k_with "subscriptTail" => ((k_here; (with_reducible show wpAny _ _ (subscriptTail _ _ (Value.ref _) (Value.int _ _)) _ _ _); k_dflt (first
  | (refine' item_menu menu6 6 ?N ?m ?a ?b ?c (menu6_at _ _ _ _ _ _) ?_ (by with_unfolding_all rfl); (case N => k_asm); (case m => k_mem); (case a => exact fmod_ge _ _ (by decide)); (case b => exact fmod_lt' _ _ (by decide)); (case c => decide); k_whole)
  | (refine' item_menu menu2 2 ?N ?m ?a ?b ?c (menu2_at _ _) ?_ (by with_unfolding_all rfl); (case N => k_asm); (case m => k_mem); (case a => exact fmod_ge _ _ (by decide)); (case b => exact fmod_lt' _ _ (by decide)); (case c => decide); k_whole)
  | (refine' item_menu kindOf 2 ?N ?m ?a ?b ?c (kinds_at _ _) ?_ (by with_unfolding_all rfl); (case N => k_asm); (case m => k_mem); (case a => exact fmod_ge _ _ (by decide)); (case b => exact fmod_lt' _ _ (by decide)); (case c => decide); k_whole)); intro wtz'; (try dsimp only)))
  k_with "subscriptTail Name Name" => ((k_here; (with_reducible show wpAny _ _ (subscriptTail _ _ (Value.ref _) (Value.int _ _)) _ _ _); k_dflt (refine' item_int ?N ?m ?i ?a ?b ?c ?_ (by with_unfolding_all rfl); (case N => k_asm); (case m => k_mem); (case i => k_asm); (case a => omega); (case b => first | omega | (simp only [List.size_toArray] at *; omega)); (case c => omega); k_whole); intro wtz' whz'; (try dsimp only)))
  k_with "eval Name" => ((k_here; k_dflt (refine' ld ?k1 ?k2 ?_; (case k1 => k_asm); (case k2 => assumption); k_whole)))
  k_with "call builtin:list.append" => ((k_here; (with_reducible show wpAny _ _ (call (Value.builtin _) [Value.ref _, _]) _ _ _); k_dflt (refine' append_K ?k1 ?k2 ?k3 ?_ ?z; (case k1 => k_asm); (case k2 => k_asm); (case k3 => k_upd); (case z => first | size_fits | ((rw [sizeLine_eq]; simp only [List.size_toArray]); omega)); k_whole); intro wh' wF' wN'; (try k_sweep)))
  k_with "exec Raise some none" => ((refine stopHere ?_))
  trivial
set_option maxRecDepth 100000 in
set_option maxHeartbeats 8000000 in
theorem worth_gone {t1 : Tok}
    (B : Below A₀ base outer h₀) (F : Fr h₀ L s.heap m) (X : (hd.heap_39 w.params).In h₀) (N : News h₀ L s.heap rest) (T : TopM mean mg mb h₀) (hf : env.frame = some L) (hk : env.scope.kind = .function) (hd' : d < 900)
    (hE : ∀ h' tk e D g' tw tw', (∀ p ∈ rest, p.1 < D) → Fr h₀ L g' m → Raised base g' (env :: outer) e 63 D (dictOf (wordEs w.params (Str.ofString "gone") tw tw') 1) rest h' → E (.ref e) { s with heap := h', toks := tk }) :
    wpAny (model prg w) (Ar d (env :: outer) gd u) (call (.ref 187) [.str (Str.ofString "gone") t1] []) Q E s := by
  refine wpAny_call ?_
  refine code_def (binds := [(Str.ofString "text", .str (Str.ofString "gone") t1)]) B F X N T rfl hf hk (by k_is) (by k_is) (by k_room) (BindsTo.of_eq rfl) (locs rfl) ?_ rfl rfl rfl (by decide)
  intro g' L' h' FG' F' N' B' X' T'
  dsimp only
  all_goals try k_fold
  k_steps
  unfold Halt
  refine raise_own rfl ?_
  all_goals try k_fold
  k_steps
  try dsimp only
  refine made63 B' F' X' N' T' rfl rfl rfl (by show d + 1 < 930; omega) ?_
  intro h2 tk2 e D t2 tw F2 N2 l1 l2 hne
  refine ⟨hd.heap_39 w.params, e, 63, _, _, _, _, _, _, _, _, _, _, _, _, _, _, _, _, _, _, _, rfl, (by k_is), tail63, X'.keeps F2.keep, (N2 _ (List.mem_cons_of_mem _ List.mem_cons_self)).1, ?_⟩
  dsimp only
  refine leave_own B' F2 N2 ?_ ?_ rfl
  · intro p hp
    rcases List.mem_cons.mp hp with rfl | hp
    · exact Nat.ne_of_gt l1
    · exact hne p hp
  · intro h3 R
    exact hE _ _ _ _ _ _ _ l2 FG' R
set_option maxRecDepth 100000 in
set_option maxHeartbeats 8000000 in
theorem worth_ill {t1 : Tok}
    (B : Below A₀ base outer h₀) (F : Fr h₀ L s.heap m) (X : (hd.heap_39 w.params).In h₀) (N : News h₀ L s.heap rest) (T : TopM mean mg mb h₀) (hf : env.frame = some L) (hk : env.scope.kind = .function) (hd' : d < 900)
    (hE : ∀ h' tk e D g' tw tw' ta ta', (∀ p ∈ rest, p.1 < D) → Fr h₀ L g' m → Raised base g' (env :: outer) e 51 D (dictOf (wordAtEs w.params (Str.ofString "no value") tw tw' ta ta' 3) 2) rest h' → E (.ref e) { s with heap := h', toks := tk }) :
    wpAny (model prg w) (Ar d (env :: outer) gd u) (call (.ref 187) [.str (Str.ofString "ill") t1] []) Q E s := by
  refine wpAny_call ?_
  refine code_def (binds := [(Str.ofString "text", .str (Str.ofString "ill") t1)]) B F X N T rfl hf hk (by k_is) (by k_is) (by k_room) (BindsTo.of_eq rfl) (locs rfl) ?_ rfl rfl rfl (by decide)
  intro g' L' h' FG' F' N' B' X' T'
  dsimp only
  all_goals try k_fold
  k_steps
  unfold Halt
  refine raise_own rfl ?_
  all_goals try k_fold
  k_steps
  try dsimp only
  refine made51 B' F' X' N' T' rfl rfl rfl (by show d + 1 < 930; omega) ?_
  intro h2 tk2 e D t2 tw ta F2 N2 l1 l2 hne
  refine ⟨hd.heap_39 w.params, e, 51, _, _, _, _, _, _, _, _, _, _, _, _, _, _, _, _, _, _, _, rfl, (by k_is), tail63, X'.keeps F2.keep, (N2 _ (List.mem_cons_of_mem _ List.mem_cons_self)).1, ?_⟩
  dsimp only
  refine leave_own B' F2 N2 ?_ ?_ rfl
  · intro p hp
    rcases List.mem_cons.mp hp with rfl | hp
    · exact Nat.ne_of_gt l1
    · exact hne p hp
  · intro h3 R
    exact hE _ _ _ _ _ _ _ _ _ l2 FG' R
-- part Exc7
theorem words_Exc7 : True := by
  k_with_none
  k_with "spliced" => (refine args_nil ?_; (try dsimp only [List.cons_append, List.nil_append]))
  k_with "mem" => ((refine memL ?_); with_reducible assumption)
  k_with "all" => (first | with_reducible assumption | exact Mine.neAll (by with_reducible assumption) | fail "mine")
  k_with "put" => (first | exact put_last | exact put_rows | exact put_cond | exact put_ign | exact put_hits | exact put_on | exact put_trb | fail "mine")
  k_with "room" => (first | exact Mine.rm 0 (by exact rfl) (by with_reducible assumption) (by exact rfl) | exact Mine.rm 1 (by exact rfl) (by with_reducible assumption) (by exact rfl) | exact Mine.rm 2 (by exact rfl) (by with_reducible assumption) (by exact rfl) | exact Mine.rm 3 (by exact rfl) (by with_reducible assumption) (by exact rfl) | exact Mine.rm 4 (by exact rfl) (by with_reducible assumption) (by exact rfl) | (simp only [depth_under_make, depth_under_kw, depth_in1, depth_deeper, recursionLimit]; omega))
  k_with "size" => (first | with_reducible assumption | with_reducible exact Mine.sz0 | with_reducible exact Mine.sz1 | with_reducible exact Mine.sz2 | with_reducible exact Mine.sz3 | with_reducible exact Mine.sz4 | with_reducible exact Mine.sz5 | with_reducible exact Mine.sz6 | exact Mine.sz_lt (by with_reducible assumption) (by exact rfl) | exact Mine.sz_le (by with_reducible assumption) (by exact rfl) | fail "mine")
  k_with "lt" => ((rename AllLt _ _ => hlt9); (try dsimp only [AllLt] at hlt9); (try simp only [and_true] at hlt9); (try first | (have hz8 := AllLt.lt (hlt9)) | (have hz8 := AllLt.lt (hlt9).2) | (have hz8 := AllLt.lt (hlt9).2.2) | (have hz8 := AllLt.lt (hlt9).2.2.2) | (have hz8 := AllLt.lt (hlt9).2.2.2.2) | (have hz8 := AllLt.lt (hlt9).2.2.2.2.2) | (have hz8 := AllLt.lt (hlt9).2.2.2.2.2.2) | (have hz8 := AllLt.lt (hlt9).2.2.2.2.2.2.2) | (have hz8 := AllLt.lt (hlt9).2.2.2.2.2.2.2.2) | (have hz8 := AllLt.lt (hlt9).2.2.2.2.2.2.2.2.2) | (have hz8 := AllLt.lt (hlt9).2.2.2.2.2.2.2.2.2.2) | (have hz8 := AllLt.lt (hlt9).2.2.2.2.2.2.2.2.2.2.2) | (have hz8 := AllLt.lt (hlt9).2.2.2.2.2.2.2.2.2.2.2.2)))
  k_with "ltc" => (first | with_reducible assumption | exact And.left (by with_reducible assumption) | exact And.left (And.right (by with_reducible assumption)) | exact And.left (And.right (And.right (by with_reducible assumption))) | exact And.left (And.right (And.right (And.right (by with_reducible assumption)))) | exact And.left (And.right (And.right (And.right (And.right (by with_reducible assumption))))) | exact And.left (And.right (And.right (And.right (And.right (And.right (by with_reducible assumption)))))) | exact And.left (And.right (And.right (And.right (And.right (And.right (And.right (by with_reducible assumption))))))) | exact And.left (And.right (And.right (And.right (And.right (And.right (And.right (And.right (by with_reducible assumption)))))))) | exact And.left (And.right (And.right (And.right (And.right (And.right (And.right (And.right (And.right (by with_reducible assumption))))))))) | exact And.left (And.right (And.right (And.right (And.right (And.right (And.right (And.right (And.right (And.right (by with_reducible assumption)))))))))) | exact And.right (by with_reducible assumption) | exact And.right (And.right (by with_reducible assumption)) | exact And.right (And.right (And.right (by with_reducible assumption))) | exact And.right (And.right (And.right (And.right (by with_reducible assumption)))) | exact And.right (And.right (And.right (And.right (And.right (by with_reducible assumption))))) | exact And.right (And.right (And.right (And.right (And.right (And.right (by with_reducible assumption)))))) | exact And.right (And.right (And.right (And.right (And.right (And.right (And.right (by with_reducible assumption))))))) | exact And.right (And.right (And.right (And.right (And.right (And.right (And.right (And.right (by with_reducible assumption)))))))) | exact And.right (And.right (And.right (And.right (And.right (And.right (And.right (And.right (And.right (by with_reducible assumption))))))))) | fail "mine")
  k_with "ne" => (first | k_extra "ltc" | ((with_reducible refine' Ne.symm ?_); k_extra "ltc") | ((with_reducible refine' Nat.ne_of_gt ?_); k_extra "ltc") | ((with_reducible refine' Nat.ne_of_lt ?_); k_extra "ltc") | ((with_reducible refine' Nat.ne_of_gt (Nat.lt_succ_of_lt ?_)); k_extra "ltc") | fail "mine")
  k_with "omega" => (first | k_extra "ltc" | with_reducible decide | k_extra "ne" | k_extra "bd" | fail "mine")
  k_with "bd" => (first | with_reducible exact Mine.p7 | ((with_reducible refine' Mine.o1 ?oh ?oe); (case oh => with_reducible assumption); (case oe => exact rfl)) | ((with_reducible refine' Mine.o2 ?oh ?oe); (case oh => with_reducible assumption); (case oe => exact rfl)) | ((with_reducible refine' Mine.o3 ?oh ?oe); (case oh => with_reducible assumption); (case oe => exact rfl)) | ((with_reducible refine' Mine.o4 ?oh ?oe); (case oh => with_reducible assumption); (case oe => exact rfl)) | ((with_reducible refine' Mine.o5 ?oh ?oe); (case oh => with_reducible assumption); (case oe => exact rfl)) | ((with_reducible refine' Mine.o6 ?oh ?oe); (case oh => with_reducible assumption); (case oe => exact rfl)) | ((with_reducible refine' Mine.o7 ?oh ?oe); (case oh => with_reducible assumption); (case oe => exact rfl)) | ((with_reducible refine' Mine.p1 ?oh ?oe); (case oh => with_reducible assumption); (case oe => exact rfl)) | ((with_reducible refine' Mine.p4 ?oh ?oe); (case oh => with_reducible assumption); (case oe => exact rfl)) | ((with_reducible refine' Mine.p6 ?oh ?oe); (case oh => with_reducible assumption); (case oe => exact rfl)) | ((with_reducible refine' Mine.r6 ?oh ?oe); (case oh => with_reducible assumption); (case oe => exact rfl)) | ((with_reducible refine' Mine.r13 ?oh ?oe); (case oh => with_reducible assumption); (case oe => exact rfl)) | ((with_reducible refine' Mine.r14 ?oh ?oe); (case oh => with_reducible assumption); (case oe => exact rfl)) | ((with_reducible refine' Mine.r15 ?oh ?oe); (case oh => with_reducible assumption); (case oe => exact rfl)) | ((with_reducible refine' Mine.r18 ?oh ?oe); (case oh => with_reducible assumption); (case oe => exact rfl)) | ((with_reducible refine' Mine.r19 ?oh ?oe); (case oh => with_reducible assumption); (case oe => exact rfl)) | ((with_reducible refine' Mine.r20 ?oh ?oe); (case oh => with_reducible assumption); (case oe => exact rfl)) | ((with_reducible refine' Mine.r21 ?oh ?oe); (case oh => with_reducible assumption); (case oe => exact rfl)) | ((with_reducible refine' Mine.o8 ?og ?oh ?oe); (case og => with_reducible assumption); (case oh => with_reducible assumption); (case oe => exact rfl)) | ((with_reducible refine' Mine.o9 ?og ?oh ?oe); (case og => with_reducible assumption); (case oh => with_reducible assumption); (case oe => exact rfl)) | ((with_reducible refine' Mine.p5 ?og ?oh ?oe); (case og => with_reducible assumption); (case oh => with_reducible assumption); (case oe => exact rfl)) | ((with_reducible refine' Mine.r5 ?og ?oh ?oe); (case og => with_reducible assumption); (case oh => with_reducible assumption); (case oe => exact rfl)) | ((with_reducible refine' Mine.r1 ?og ?oh); (case og => with_reducible assumption); (case oh => with_reducible assumption)) | ((with_reducible refine' Mine.r3 ?og ?oh); (case og => with_reducible assumption); (case oh => with_reducible assumption)) | ((with_reducible refine' Nat.le_trans ?og ?oh); (case og => with_reducible assumption); (case oh => with_reducible assumption)) | ((with_reducible refine' Mine.r22 ?oh); (case oh => with_reducible assumption)) | ((with_reducible refine' Mine.r23 ?oh); (case oh => with_reducible assumption)) | ((with_reducible refine' Mine.big_lo ?oh); (case oh => with_reducible assumption)) | ((with_reducible refine' Mine.big_hi ?oh); (case oh => with_reducible assumption)) | ((with_reducible refine' Mine.big_ten ?oh); (case oh => with_reducible assumption)) | ((with_reducible refine' Int.ne_of_gt ?_); k_extra "ltc") | ((with_reducible refine' Int.le_of_lt ?_); k_extra "ltc") | with_reducible exact Int.le_refl _ | with_reducible exact Nat.le_succ _ | with_reducible exact Nat.zero_add _ | fail "mine")
  trivial
section
variable {prog : Program} {A₀ : Around} {s' : Shared} {g G : Heap} {a e C D : Addr} {oD : Obj} {name : Str} {scope : Scope} {cd : Value} {n : Str} {b₀ : Stmt} {suite : List Stmt} {pos np : Pos} {rst : List ExceptHandler} {Q : Flow → Shared → Prop} {KF : Frag}
  {p : Program} {loose : List Str} {x : Str} {nm q nm' q' : Str} {N0 N0' : Addr} {bs bm bs' bm' : List Value} {hdct hdct' : Bool} {sn sn' : List Str} {sub sub' : List Value} {ab ab' : Bool} {col col' : Option Bool} {cdd cdd' : Option Addr} {k0 k1 k2 k3 k5 k0' k1' k2' k3' k5' : Option Value} {newId newId' : String}

/-- an exception of a class below it is caught by the name of the class above -/
theorem xc_matches {h : Heap} {o : Obj} {Q : Bool → Shared → Prop} {C' : Addr} (hh : s.heap = h) (hC : h.get? C = some (excClassObj nm q C N0 bs bm hdct sn sub ab col cdd k0 k1 k2 k3 k5 newId)) (hC' : h.get? C' = some (excClassObj nm' q' C' N0' bs' bm' hdct' sn' sub' ab' col' cdd' k0' k1' k2' k3' k5' newId'))
    (he : h.get? e = some o) (hec : o.cls = .ref C) (hb : bm.contains (.type "BaseException") = true) (hb' : bm'.contains (.type "BaseException") = true) (hs : (Value.ref C :: bm).contains (.ref C') = true) (hq : Q true s) {M : Model} {A : Around} :
    wpAny M A (excMatches (.ref e) (.ref C')) Q E s := by
  have hcB : (Value.ref C :: bm).contains (.type "BaseException") = true := by rw [List.contains_cons, hb, Bool.or_true]
  have hcB' : (Value.ref C' :: bm').contains (.type "BaseException") = true := by rw [List.contains_cons, hb', Bool.or_true]
  have f := tc_notTuple
  refine hold fun H9 hH9 => ?_
  obtain ⟨hp, g, d, t, os⟩ := s
  refine hH9 ?_
  clear hH9 H9
  dsimp only at hh
  subst hh
  unfold excMatches
  repeat (first | (with_reducible refine wpAny_loadPart_at he ?_; rw [hec]) | with_reducible refine wpAny_loadPart_at hC' ?_ | (with_reducible refine wpAny_isSubtype_exc hC' ?_; rw [hcB']) | (with_reducible refine wpAny_isSubtype_exc hC ?_; first | rw [hs] | rw [hcB]) | wp_step)
  exact hq

theorem catch_own (R : Raised base G (envOf name scope L a cd :: outer) e C D oD news s'.heap) (F : Fr g L G m) (K : Below A₀ base outer g) (XB : KF.In base) (TB : Top p loose mean mg mb base) (D0 : KtsDicts (outer.filterMap (·.frame)) g)
    (ex : nsIn KF mainGlobals x = some (some (.ref 31))) (hlC : KF.lookup C = some (excClassObj nm q C N0 bs bm hdct sn sub ab col cdd k0 k1 k2 k3 k5 newId)) (hlC' : KF.lookup 31 = some (excClassObj nm' q' 31 N0' bs' bm' hdct' sn' sub' ab' col' cdd' k0' k1' k2' k3' k5' newId'))
    (hb : bm.contains (.type "BaseException") = true) (hb' : bm'.contains (.type "BaseException") = true) (hs : (Value.ref C :: bm).contains (.ref 31) = true)
    (k : ∀ h' g' tk oe vs, (∀ z ∈ (D, oD) :: news, z.1 ≠ e) → KtsTurn (outer.filterMap (·.frame)) g g' → Fr g' L h' (fun y => if y = n then some (.ref e) else m y) → News g' L h' ((e, oe) :: (D, oD) :: news) → oe.cls = .ref C → oe.dict = some D → oe.data = .fields vs → Below A₀ base outer g' → KF.In g' → Top p loose mean mg mb g' → KtsDicts (outer.filterMap (·.frame)) g' →
      wpAny (model prog w) ((A₀.deeper (envOf name scope L a cd)).mark (some (.ref e))) (execs (b₀ :: suite) (envOf name scope L a cd))
        (fun f s₄ => wpAny (model prog w) (A₀.deeper (envOf name scope L a cd)) (do bindName (envOf name scope L a cd) n .none; unbindBehindTheSuite (envOf name scope L a cd) n pos) (fun _ s₅ => Q f s₅) E s₄)
        (AsSuiteRaised (model prog w) ((A₀.deeper (envOf name scope L a cd)).mark (some (.ref e))) (envOf name scope L a cd) n pos (notedBy (model prog w) ((A₀.deeper (envOf name scope L a cd)).mark (some (.ref e))) (envOf name scope L a cd) (cameBackBy (model prog w) (A₀.deeper (envOf name scope L a cd)) (envOf name scope L a cd) E)))
        { s' with heap := h', toks := tk })
    (hk : scope.kind = .function) (hx : (envOf name scope L a cd).kindOf x = some .globalImplicit) (hd : (x == ("__debug__" : Str)) = false) (hlo : (envOf name scope L a cd).kindOf n = some .local) :
    wpAny (model prog w) (A₀.deeper (envOf name scope L a cd)) (noteFrame (.ref e) (envOf name scope L a cd))
      (fun _ s₂ => wpAny (model prog w) (A₀.deeper (envOf name scope L a cd)) (setFlight (.ref e) none) (fun _ s₃ =>
        wpAny (model prog w) (A₀.deeper (envOf name scope L a cd)) (handleBy (.ref e) (envOf name scope L a cd) (.ExceptHandler (some (.Name x np)) (some n) (b₀ :: suite) pos :: rst)) Q E s₃) E s₂) E s' := by
  refine hold fun H9 hH9 => ?_
  obtain ⟨B, hB, hBG, hl, hGe, T, hsm⟩ := R
  refine hH9 ?_
  clear hH9 H9
  have hfr := Around.frames_deeper (env := envOf name scope L a cd) K.stack
  refine tr_note hfr rfl T fun h₄ T₄ u₄ => ?_
  refine tr_flight T₄ fun h₅ T₅ u₅ => ?_
  refine hold fun H9 hH9 => ?_
  obtain ⟨g₅, KT₅, F₅, K₅⟩ := kts_ground K F hBG T₅.stays ((hsm.trans u₄).trans u₅)
  have X₅ : KF.In g₅ := XB.keeps K₅.stays
  have P₅ : TopRead p loose mg mb g₅ := topRead_of (TB.keeps K₅.stays)
  obtain ⟨oe₅, vs₅, _, _, _, he₅, hc₅, _⟩ := T₅.tr
  refine hH9 ?_
  clear hH9 H9
  refine wpAny_handleBy_cons (codeAny_handlers_test (name_K F₅ X₅ P₅ ex ?_ hk hx hd)) (by intro q; cases q)
  refine xc_matches rfl (F₅.keep _ _ (X₅ _ _ hlC)) (F₅.keep _ _ (X₅ _ _ hlC')) he₅ hc₅ hb hb' hs ?_
  refine codeAny_handlers_suite_as ?_
  refine tr_flight T₅ fun h₆ T₆ u₆ => ?_
  refine hold fun H9 hH9 => ?_
  obtain ⟨g₆, KT₆, F₆, K₆⟩ := kts_ground K F hBG T₆.stays (((hsm.trans u₄).trans u₅).trans u₆)
  have gn : ∀ b, G.get? b = none → g₆.get? b = none := fun b hb => KT₆.none_ _ (kts_none F.keep hb)
  have hL : B.get? L = none := by
    obtain ⟨_, ⟨L', _, hf, hn', _⟩, _⟩ := T.frames
    obtain rfl : L = L' := Option.some.inj hf
    exact hn'
  have Nl : News g₆ L h₆ ((D, oD) :: news) := fun z hz => ⟨T₆.stays _ _ (hl z hz).1, (fun y => by have := (hl z hz).1; rw [y, hL] at this; cases this), gn _ (hl z hz).2⟩
  obtain ⟨oe, vs, _, _, _, he₆, hc₆, hd₆, hf₆, _⟩ := T₆.tr
  refine hH9 ?_
  clear hH9 H9
  have N₆ := News.more F₆ Nl he₆ (fun es n q => by rw [hf₆] at q; cases q) (gn _ hGe)
  have X₆ : KF.In g₆ := XB.keeps K₆.stays
  have P₆ : Top p loose mean mg mb g₆ := TB.keeps K₆.stays
  refine stN F₆ N₆ (fun h₇ F₇ N₇ => ?_) hk hlo
  exact k h₇ g₆ _ _ _ (fun z hz y => by have := (hl z hz).1; rw [y, T.new] at this; cases this) KT₆ F₇ N₇ hc₆ hd₆ hf₆ K₆ X₆ P₆ (D0.turn KT₆)
end
-- part Exc8
section
variable {prog : Program} {A : Around} {K : Frag} {p : Program} {loose : List Str} {R : Result → Shared → Prop} {name qual : Str} {params : Arguments} {body : List Stmt} {scope : Scope} {dV kV doc pm cdv ct oc : Value} {an od : Option Addr} {osl : Array (Option Value)} {f : Addr} {args : Args} {binds : List (Str × Value)}
/-- a def called from a frame that lies lowest, whose own frame's slots may change meanwhile -/
theorem code_def0 (B : Below A₀ base [] h₀) (F : Fr h₀ L s.heap m) (X₀ : K.In h₀) (N : News h₀ L s.heap news) (T : Top p loose mean mg mb h₀) (hA : A.frames = some [env]) (hfr : env.frame = some L) (hke : env.scope.kind = .function)
    (ho : K.lookup f = some ⟨oc, od, .func (fnOf name qual params body scope dV kV doc pm an cdv ct), osl⟩) (hcd : codeIn K cdv qual = true) (hroom : A.depth < recursionLimit)
    (hbind : BindsTo s (fnOf name qual params body scope dV kV doc pm an cdv ct) args binds) (hloc : ∀ y ∈ binds, scope.names.lookup y.1 = some .local)
    (h : ∀ g L' h₁, Fr h₀ L g m → Fr g L' h₁ (fun y => binds.reverse.lookup y) → News g L' h₁ news → Below A base [env] g → K.In g → Top p loose mean mg mb g → KtsDicts ([env].filterMap (·.frame)) g →
      wpAny (model prog w) (A.deeper (envOf qual scope L' f cdv)) (execs body (envOf qual scope L' f cdv))
        (fun fl s' => LeaveS0 ([env].filterMap (·.frame)) h₀ L m g R (match fl with | .ret v => v | _ => .none) s')
        (fun e s' => wpAny (model prog w) (A.deeper (envOf qual scope L' f cdv)) (leaving (envOf qual scope L' f cdv) e) (fun _ s'' => R (.error e) s'') (fun e' s'' => R (.error e') s'') s')
        { s with heap := h₁, toks := s.toks + binds.length })
    (hco : scope.isCoroutine = false) (hgen : scope.isGenerator = false) (hk : scope.kind = .function)
    (hcell : ∀ x ∈ scope.names, x.2 ≠ .cell) : codeAny (model prog w) A (.call (.ref f) args) R s := by
  have X := X₀.keeps F.keep
  refine hold fun H9 hH9 => ?_
  obtain ⟨FG, BG, st, _⟩ := groundX (R := R) B F N hA hfr hke
  refine hH9 ?_
  clear hH9 H9
  have hmem : ∀ b, b ∈ [env].filterMap (·.frame) ↔ b = L := fun b => by simp [hfr]
  refine codeAny_call_def (fd := fnOf name qual params body scope dV kV doc pm an cdv ct) (body := body) (binds := binds) hroom (X _ _ ho) rfl (T.nolimit.keeps F.keep) (codeRec_of X hcd) rfl hbind hcell hloc (fun h₁ hns hk₁ => ?_) hco hgen hk
  refine hold fun H9 hH9 => ?_
  obtain ⟨oL, es, ep, hL, hLd, hLk, hLf⟩ := F.ns
  refine hH9 ?_
  clear hH9 H9
  have nL : L ∉ news.map (·.1) := fun q => by
    refine hold fun H9 hH9 => ?_
    obtain ⟨p, hp, e⟩ := List.mem_map.mp q
    refine hH9 ?_
    clear hH9 H9
    exact (N p hp).2.1 e
  have hLg := hideAll_get (news.map (·.1)) hL nL
  refine wpAny_mono (h _ s.heap.objs.size h₁ FG ⟨hns, fun b o e => hk₁ b o (of_hideAll _ e), Nat.le_of_eq (hideAll_size _ _)⟩
    (fun p hp => ⟨hk₁ _ _ (N p hp).1, Nat.ne_of_lt (Heap.lt_size (N p hp).1), hideAll_none _ (List.mem_map_of_mem hp)⟩) BG (X₀.keeps st) (T.keeps st) (fun b hb => by
      rw [(hmem b).mp hb]
      exact ⟨oL, es, ep, hLg, hLd⟩)) (fun fl s' hl => ?_) fun _ _ y => y
  refine hold fun H9 hH9 => ?_
  obtain ⟨g', L', m', news', T', F', N', k⟩ := hl
  have nL₀ : h₀.get? L = none := kts_self F
  obtain ⟨sl, hs⟩ := T'.up hLg
  refine hH9 ?_
  clear hH9 H9
  refine k ⟨⟨_, es, ep, F'.keep _ _ hs, hLd, hLk, hLf⟩, fun b o e => F'.keep b o (T'.other b o (st b o e) (fun q => by
    rw [(hmem b).mp q, nL₀] at e
    cases e)), F.above⟩ fun p hp => ⟨(N' p hp).1, fun q => ?_, ?_⟩
  · have := (N' p hp).2.2; rw [q, hs] at this; cases this
  · cases q : h₀.get? p.1 with
    | none => rfl
    | some o =>
      obtain ⟨sl', hs'⟩ := T'.up (st _ _ q)
      have := (N' p hp).2.2
      rw [hs'] at this
      cases this
end
-- part C13
theorem words_C13 : True := by
  k_with_none
  k_with "spliced" => (refine args_nil ?_; (try dsimp only [List.cons_append, List.nil_append]))
  k_with "mem" => ((refine memL ?_); with_reducible assumption)
  k_with "all" => (first | with_reducible assumption | exact Mine.neAll (by with_reducible assumption) | fail "mine")
  k_with "put" => (first | exact put_last | exact put_rows | exact put_cond | exact put_ign | exact put_hits | exact put_on | exact put_trb | fail "mine")
  k_with "room" => (first | exact Mine.rm 0 (by exact rfl) (by with_reducible assumption) (by exact rfl) | exact Mine.rm 1 (by exact rfl) (by with_reducible assumption) (by exact rfl) | exact Mine.rm 2 (by exact rfl) (by with_reducible assumption) (by exact rfl) | exact Mine.rm 3 (by exact rfl) (by with_reducible assumption) (by exact rfl) | exact Mine.rm 4 (by exact rfl) (by with_reducible assumption) (by exact rfl) | (simp only [depth_under_make, depth_under_kw, depth_in1, depth_deeper, recursionLimit]; omega))
  k_with "size" => (first | with_reducible assumption | with_reducible exact Mine.sz0 | with_reducible exact Mine.sz1 | with_reducible exact Mine.sz2 | with_reducible exact Mine.sz3 | with_reducible exact Mine.sz4 | with_reducible exact Mine.sz5 | with_reducible exact Mine.sz6 | exact Mine.sz_lt (by with_reducible assumption) (by exact rfl) | exact Mine.sz_le (by with_reducible assumption) (by exact rfl) | fail "mine")
  k_with "lt" => ((rename AllLt _ _ => hlt9); (try dsimp only [AllLt] at hlt9); (try simp only [and_true] at hlt9); (try first | (have hz8 := AllLt.lt (hlt9)) | (have hz8 := AllLt.lt (hlt9).2) | (have hz8 := AllLt.lt (hlt9).2.2) | (have hz8 := AllLt.lt (hlt9).2.2.2) | (have hz8 := AllLt.lt (hlt9).2.2.2.2) | (have hz8 := AllLt.lt (hlt9).2.2.2.2.2) | (have hz8 := AllLt.lt (hlt9).2.2.2.2.2.2) | (have hz8 := AllLt.lt (hlt9).2.2.2.2.2.2.2) | (have hz8 := AllLt.lt (hlt9).2.2.2.2.2.2.2.2) | (have hz8 := AllLt.lt (hlt9).2.2.2.2.2.2.2.2.2) | (have hz8 := AllLt.lt (hlt9).2.2.2.2.2.2.2.2.2.2) | (have hz8 := AllLt.lt (hlt9).2.2.2.2.2.2.2.2.2.2.2) | (have hz8 := AllLt.lt (hlt9).2.2.2.2.2.2.2.2.2.2.2.2)))
  k_with "ltc" => (first | with_reducible assumption | exact And.left (by with_reducible assumption) | exact And.left (And.right (by with_reducible assumption)) | exact And.left (And.right (And.right (by with_reducible assumption))) | exact And.left (And.right (And.right (And.right (by with_reducible assumption)))) | exact And.left (And.right (And.right (And.right (And.right (by with_reducible assumption))))) | exact And.left (And.right (And.right (And.right (And.right (And.right (by with_reducible assumption)))))) | exact And.left (And.right (And.right (And.right (And.right (And.right (And.right (by with_reducible assumption))))))) | exact And.left (And.right (And.right (And.right (And.right (And.right (And.right (And.right (by with_reducible assumption)))))))) | exact And.left (And.right (And.right (And.right (And.right (And.right (And.right (And.right (And.right (by with_reducible assumption))))))))) | exact And.left (And.right (And.right (And.right (And.right (And.right (And.right (And.right (And.right (And.right (by with_reducible assumption)))))))))) | exact And.right (by with_reducible assumption) | exact And.right (And.right (by with_reducible assumption)) | exact And.right (And.right (And.right (by with_reducible assumption))) | exact And.right (And.right (And.right (And.right (by with_reducible assumption)))) | exact And.right (And.right (And.right (And.right (And.right (by with_reducible assumption))))) | exact And.right (And.right (And.right (And.right (And.right (And.right (by with_reducible assumption)))))) | exact And.right (And.right (And.right (And.right (And.right (And.right (And.right (by with_reducible assumption))))))) | exact And.right (And.right (And.right (And.right (And.right (And.right (And.right (And.right (by with_reducible assumption)))))))) | exact And.right (And.right (And.right (And.right (And.right (And.right (And.right (And.right (And.right (by with_reducible assumption))))))))) | fail "mine")
  k_with "ne" => (first | k_extra "ltc" | ((with_reducible refine' Ne.symm ?_); k_extra "ltc") | ((with_reducible refine' Nat.ne_of_gt ?_); k_extra "ltc") | ((with_reducible refine' Nat.ne_of_lt ?_); k_extra "ltc") | ((with_reducible refine' Nat.ne_of_gt (Nat.lt_succ_of_lt ?_)); k_extra "ltc") | fail "mine")
  k_with "omega" => (first | k_extra "ltc" | with_reducible decide | k_extra "ne" | k_extra "bd" | fail "mine")
  k_with "bd" => (first | with_reducible exact Mine.p7 | ((with_reducible refine' Mine.o1 ?oh ?oe); (case oh => with_reducible assumption); (case oe => exact rfl)) | ((with_reducible refine' Mine.o2 ?oh ?oe); (case oh => with_reducible assumption); (case oe => exact rfl)) | ((with_reducible refine' Mine.o3 ?oh ?oe); (case oh => with_reducible assumption); (case oe => exact rfl)) | ((with_reducible refine' Mine.o4 ?oh ?oe); (case oh => with_reducible assumption); (case oe => exact rfl)) | ((with_reducible refine' Mine.o5 ?oh ?oe); (case oh => with_reducible assumption); (case oe => exact rfl)) | ((with_reducible refine' Mine.o6 ?oh ?oe); (case oh => with_reducible assumption); (case oe => exact rfl)) | ((with_reducible refine' Mine.o7 ?oh ?oe); (case oh => with_reducible assumption); (case oe => exact rfl)) | ((with_reducible refine' Mine.p1 ?oh ?oe); (case oh => with_reducible assumption); (case oe => exact rfl)) | ((with_reducible refine' Mine.p4 ?oh ?oe); (case oh => with_reducible assumption); (case oe => exact rfl)) | ((with_reducible refine' Mine.p6 ?oh ?oe); (case oh => with_reducible assumption); (case oe => exact rfl)) | ((with_reducible refine' Mine.r6 ?oh ?oe); (case oh => with_reducible assumption); (case oe => exact rfl)) | ((with_reducible refine' Mine.r13 ?oh ?oe); (case oh => with_reducible assumption); (case oe => exact rfl)) | ((with_reducible refine' Mine.r14 ?oh ?oe); (case oh => with_reducible assumption); (case oe => exact rfl)) | ((with_reducible refine' Mine.r15 ?oh ?oe); (case oh => with_reducible assumption); (case oe => exact rfl)) | ((with_reducible refine' Mine.r18 ?oh ?oe); (case oh => with_reducible assumption); (case oe => exact rfl)) | ((with_reducible refine' Mine.r19 ?oh ?oe); (case oh => with_reducible assumption); (case oe => exact rfl)) | ((with_reducible refine' Mine.r20 ?oh ?oe); (case oh => with_reducible assumption); (case oe => exact rfl)) | ((with_reducible refine' Mine.r21 ?oh ?oe); (case oh => with_reducible assumption); (case oe => exact rfl)) | ((with_reducible refine' Mine.o8 ?og ?oh ?oe); (case og => with_reducible assumption); (case oh => with_reducible assumption); (case oe => exact rfl)) | ((with_reducible refine' Mine.o9 ?og ?oh ?oe); (case og => with_reducible assumption); (case oh => with_reducible assumption); (case oe => exact rfl)) | ((with_reducible refine' Mine.p5 ?og ?oh ?oe); (case og => with_reducible assumption); (case oh => with_reducible assumption); (case oe => exact rfl)) | ((with_reducible refine' Mine.r5 ?og ?oh ?oe); (case og => with_reducible assumption); (case oh => with_reducible assumption); (case oe => exact rfl)) | ((with_reducible refine' Mine.r1 ?og ?oh); (case og => with_reducible assumption); (case oh => with_reducible assumption)) | ((with_reducible refine' Mine.r3 ?og ?oh); (case og => with_reducible assumption); (case oh => with_reducible assumption)) | ((with_reducible refine' Nat.le_trans ?og ?oh); (case og => with_reducible assumption); (case oh => with_reducible assumption)) | ((with_reducible refine' Mine.r22 ?oh); (case oh => with_reducible assumption)) | ((with_reducible refine' Mine.r23 ?oh); (case oh => with_reducible assumption)) | ((with_reducible refine' Mine.big_lo ?oh); (case oh => with_reducible assumption)) | ((with_reducible refine' Mine.big_hi ?oh); (case oh => with_reducible assumption)) | ((with_reducible refine' Mine.big_ten ?oh); (case oh => with_reducible assumption)) | ((with_reducible refine' Int.ne_of_gt ?_); k_extra "ltc") | ((with_reducible refine' Int.le_of_lt ?_); k_extra "ltc") | with_reducible exact Int.le_refl _ | with_reducible exact Nat.le_succ _ | with_reducible exact Nat.zero_add _ | fail "mine")
  k_with "call builtin:sorted" => ((k_here; (refine' sorted_led ?F ?N ?m ?i ?b ?_; (case F => k_asm); (case N => k_asm); (case m => k_mem); (case i => k_asm); (case b => k_asm); k_whole); intro wD' wvs' wc' wh' wF' wN' wl1' wi'; (try k_lt wl1'); (try dsimp only)))
  k_with "TurnG" => (first | ((with_reducible show TurnG _ _ _ _ _ _ _ (Flow.ret _) _); dsimp only [TurnG]) | ((with_reducible show TurnG _ _ _ _ _ _ _ Flow.brk _); dsimp only [TurnG]))
  k_with "exec Assign cons ListComp" => ((k_here; k_dflt (first
  | (refine LCt.Assign_ListComp_T (F₀ := by k_asm) (by rfl) (by with_unfolding_all rfl) (by with_unfolding_all rfl) (by decide) (by rfl) (by decide) (by rfl) (by rfl) (by rfl) ?_)
  | (refine LCg.Assign_ListComp_U (F₀ := by k_asm) (by rfl) (by with_unfolding_all rfl) (by with_unfolding_all rfl) (by decide) (by rfl) (by decide) (by rfl) (by rfl) (by rfl) ?_))))
  k_with "eval ListComp" => ((k_here; k_dflt (first
  | (refine LCt.ListComp_T (F₀ := by k_asm) (by with_unfolding_all rfl) (by decide) (by rfl) (by decide) (by rfl) ?_)
  | (refine LCg.ListComp_U (F₀ := by k_asm) (by with_unfolding_all rfl) (by decide) (by rfl) (by decide) (by rfl) ?_))))
  k_with "CompSrcT" => (fail "mine: by hand")
  k_with "CompSrc" => (fail "mine: by hand")
  k_with "call builtin:len" => ((k_here; k_dflt (refine' len_led ?N ?m ?b ?_; (case N => k_asm); (case m => k_mem); (case b => first | omega | ((simp only [sxs_size, rxs_size, List.size_toArray, List.length_map, Array.size_push]); omega)); k_whole)))
  k_with "compareOp In int ref" => ((k_here; k_dflt (refine' in_led ?N ?m ?i ?_; (case N => k_asm); (case m => k_mem); (case i => k_asm); k_whole)))
  k_with "compareOp NotIn int ref" => ((k_here; k_dflt (refine' notin_led ?N ?m ?i ?_; (case N => k_asm); (case m => k_mem); (case i => k_asm); k_whole)))
  k_with "setItem ref int" => ((k_here; k_dflt (refine' kda_set (knd := PySem.intKind _ _) ?F ?N ?U ?d (intKind_is _ _ _ _) ?z ?_; (case F => k_asm); (case N => k_asm); (case U => k_updF); (case d => k_asm); (case z => k_asm)); intro wh' wo' wF' wN' whd'; (try dsimp only at wN'); (try k_sweep); (try dsimp only)))
  k_with "setItem ref str" => ((k_here; k_dflt (refine' kda_set (knd := PySem.strKind _ _) ?F ?N ?U ?d (strKind_is _ _ _ _) ?z ?_; (case F => k_asm); (case N => k_asm); (case U => k_updF); (case d => k_asm); (case z => rw [sizeLine_eq]; exact Nat.le_of_ble_eq_true (by with_unfolding_all rfl))); intro wh' wo' wF' wN' whd'; (try first | rw [stored_cond] at whd' | rw [stored_ign] at whd' | rw [stored_hits] at whd' | rw [stored_on] at whd' | rw [stored_trb] at whd'); (try dsimp only at whd'); (try dsimp only at wN'); (try k_sweep); (try dsimp only)))
  k_with "subscriptTail Name" => ((k_here; (with_reducible show wpAny _ _ (subscriptTail _ _ (Value.ref _) (Value.str _ _)) _ _ _); k_dflt (refine kda_item (knd := PySem.strKind _ _) (by k_asm) (by k_mem) (by k_asm) (strKind_is _ _ _ _) (by rfl) ?_); (try dsimp only)))
  k_with "getItem ref str" => ((k_here; k_dflt (refine kdt_getItem (knd := PySem.strKind _ _) (by k_asm) (by k_mem) (by k_asm) (strKind_is _ _ _ _) (by rfl) ?_); (try dsimp only)))
  k_with "subscriptTail" => ((k_here; (with_reducible show wpAny _ _ (subscriptTail _ _ (Value.ref _) (Value.int _ _)) _ _ _); k_dflt (first
  | (refine' item_menu menu6 6 ?N ?m ?a ?b ?c (menu6_at _ _ _ _ _ _) ?_ (by with_unfolding_all rfl); (case N => k_asm); (case m => k_mem); (case a => exact fmod_ge _ _ (by decide)); (case b => exact fmod_lt' _ _ (by decide)); (case c => decide); k_whole)
  | (refine' item_menu menu2 2 ?N ?m ?a ?b ?c (menu2_at _ _) ?_ (by with_unfolding_all rfl); (case N => k_asm); (case m => k_mem); (case a => exact fmod_ge _ _ (by decide)); (case b => exact fmod_lt' _ _ (by decide)); (case c => decide); k_whole)
  | (refine' item_menu kindOf 2 ?N ?m ?a ?b ?c (kinds_at _ _) ?_ (by with_unfolding_all rfl); (case N => k_asm); (case m => k_mem); (case a => exact fmod_ge _ _ (by decide)); (case b => exact fmod_lt' _ _ (by decide)); (case c => decide); k_whole)); intro wtz'; (try dsimp only)))
  k_with "subscriptTail Name Name" => ((k_here; (with_reducible show wpAny _ _ (subscriptTail _ _ (Value.ref _) (Value.int _ _)) _ _ _); k_dflt (refine' item_int ?N ?m ?i ?a ?b ?c ?_ (by with_unfolding_all rfl); (case N => k_asm); (case m => k_mem); (case i => k_asm); (case a => omega); (case b => first | omega | (simp only [List.size_toArray] at *; omega)); (case c => omega); k_whole); intro wtz' whz'; (try dsimp only)))
  k_with "eval Name" => ((k_here; k_dflt (refine' ld ?k1 ?k2 ?_; (case k1 => k_asm); (case k2 => assumption); k_whole)))
  k_with "call builtin:list.append" => ((k_here; (with_reducible show wpAny _ _ (call (Value.builtin _) [Value.ref _, _]) _ _ _); k_dflt (refine' append_K ?k1 ?k2 ?k3 ?_ ?z; (case k1 => k_asm); (case k2 => k_asm); (case k3 => k_upd); (case z => first | size_fits | ((rw [sizeLine_eq]; simp only [List.size_toArray]); omega)); k_whole); intro wh' wF' wN'; (try k_sweep)))
  k_with "call ref" => (((with_reducible show wpAny _ _ (call (Value.ref 187) _) _ _ _); refine stopHere ?_))
  trivial
set_option maxRecDepth 100000 in
set_option maxHeartbeats 8000000 in
theorem is_true_gone {cn : Str} {cs : Scope} {ccd : Value} {a : Addr} {S x dx dS sp R : Addr} {num ign hits : Int} {kind text trb : Str} {on : Bool} {tv : VTok} {kt : KTok} {n nS : Nat} {k0 k1 t0 : Tok} {last : Int}
    (B : Below A₀ base outer h₀) (F : Fr h₀ L s.heap m) (X : (hd.heap_39 w.params).In h₀) (N : News h₀ L s.heap ((x, instObj 82 dx) :: (dx, dictOf (stopEs w.params kt ⟨num, kind, text, Str.ofString "gone", ign, hits, on, trb⟩ sp tv) n) :: (S, instObj 148 dS) :: (dS, dictOf (stopsEs w.params k0 k1 R last t0) nS) :: rest)) (T : TopM mean mg mb h₀) (hck : cs.kind = .function) (hd' : d < 890)
    (XB : (hd.heap_39 w.params).In base) (TB : TopM mean mg mb base) (D0 : KtsDicts (outer.filterMap (·.frame)) h₀)
    (h3 : @Ne Nat x dx) (hdx : ∀ p ∈ (S, instObj 148 dS) :: (dS, dictOf (stopsEs w.params k0 k1 R last t0) nS) :: rest, p.1 ≠ dx)
    (h : ∀ h' tk tv' n' h₀', KtsTurn (outer.filterMap (·.frame)) h₀ h₀' → Fr h₀' L h' m → News h₀' L h' ((x, instObj 82 dx) :: (dx, dictOf (stopEs w.params kt ⟨num, kind, text, Str.ofString "gone", ign, hits, on, Str.ofString "gone"⟩ sp tv') n') :: (S, instObj 148 dS) :: (dS, dictOf (stopsEs w.params k0 k1 R last t0) nS) :: rest) →
      Below A₀ base outer h₀' → (hd.heap_39 w.params).In h₀' → TopM mean mg mb h₀' → KtsDicts (outer.filterMap (·.frame)) h₀' → Q (.bool true) { s with heap := h', toks := tk }) :
    wpAny (model prg w) (Ar d (envOf cn cs L a ccd :: outer) gd u) (call (.ref 138) [.ref S, .ref x, .ref 187] []) Q E s := by
  refine wpAny_call ?_
  refine code_defS (g₀ := h₀) (binds := [(Str.ofString "self", .ref S), (Str.ofString "stop", .ref x), (Str.ofString "evaluate", .ref 187)]) B F X N T XB TB D0 KtsTurn.refl rfl (by k_is) (by k_is) (by k_room) (BindsTo.of_eq rfl) (locs rfl) ?_ hck rfl rfl rfl (by decide)
  intro g' L' h' FG' F' N' B' X' T' D'
  dsimp only
  all_goals try k_fold
  k_steps
  · rename_i hq a3 a4 a5 a6
    exact absurd hq (by show ¬ (Str.ofString "gone" == Str.ofString "") = true; decide)
  unfold Halt
  refine worth_gone B' (by assumption) X' (by assumption) T' rfl rfl (by show d + 1 < 900; omega) ?_
  intro h2 tk2 e D g2 tw tw' lD FG2 R2
  dsimp only
  refine catch_own R2 FG2 B' XB TB D' (by k_is) (by k_is) (by k_is) rfl rfl rfl ?_ rfl rfl (by decide) rfl
  intro h4 g4 tk4 oe vs neE KT4 F4 N4 hoc hod hof B4 X4 T4 D4
  dsimp only
  all_goals try k_fold
  k_steps
  try dsimp only
  dsimp only at N4 neE lD
  have ne1 : @Ne Nat D dx := Nat.ne_of_gt (lD _ (List.mem_cons_of_mem _ List.mem_cons_self))
  have ne2 : @Ne Nat dx e := neE _ (List.mem_cons_of_mem _ (List.mem_cons_of_mem _ List.mem_cons_self))
  have ne3 : @Ne Nat D e := neE _ List.mem_cons_self
  have ne4 : @Ne Nat e dx := Ne.symm ne2
  refine xc_get (v := .str (Str.ofString "gone") tw') (X4.keeps F4.keep) (N4 _ List.mem_cons_self).1 hoc hod hof (N4 _ (List.mem_cons_of_mem _ List.mem_cons_self)).1 (by k_is) (by k_is) (by k_is) rfl (by k_is) (by k_is) (by k_is) rfl rfl ?_
  all_goals try k_fold
  k_steps
  exact h _ _ ⟨_, _, _, _, _, _, _⟩ _ _ (by assumption) (by assumption) (newsTail (newsTail (by assumption))) (by assumption) (by assumption) (by assumption) (by assumption)
set_option maxRecDepth 100000 in
set_option maxHeartbeats 8000000 in
theorem is_true_ill {cn : Str} {cs : Scope} {ccd : Value} {a : Addr} {S x dx dS sp R : Addr} {num ign hits : Int} {kind text trb : Str} {on : Bool} {tv : VTok} {kt : KTok} {n nS : Nat} {k0 k1 t0 : Tok} {last : Int}
    (B : Below A₀ base outer h₀) (F : Fr h₀ L s.heap m) (X : (hd.heap_39 w.params).In h₀) (N : News h₀ L s.heap ((x, instObj 82 dx) :: (dx, dictOf (stopEs w.params kt ⟨num, kind, text, Str.ofString "ill", ign, hits, on, trb⟩ sp tv) n) :: (S, instObj 148 dS) :: (dS, dictOf (stopsEs w.params k0 k1 R last t0) nS) :: rest)) (T : TopM mean mg mb h₀) (hck : cs.kind = .function) (hd' : d < 890)
    (XB : (hd.heap_39 w.params).In base) (TB : TopM mean mg mb base) (D0 : KtsDicts (outer.filterMap (·.frame)) h₀)
    (h3 : @Ne Nat x dx) (hdx : ∀ p ∈ (S, instObj 148 dS) :: (dS, dictOf (stopsEs w.params k0 k1 R last t0) nS) :: rest, p.1 ≠ dx)
    (h : ∀ h' tk tv' n' h₀', KtsTurn (outer.filterMap (·.frame)) h₀ h₀' → Fr h₀' L h' m → News h₀' L h' ((x, instObj 82 dx) :: (dx, dictOf (stopEs w.params kt ⟨num, kind, text, Str.ofString "ill", ign, hits, on, Str.ofString "no value"⟩ sp tv') n') :: (S, instObj 148 dS) :: (dS, dictOf (stopsEs w.params k0 k1 R last t0) nS) :: rest) →
      Below A₀ base outer h₀' → (hd.heap_39 w.params).In h₀' → TopM mean mg mb h₀' → KtsDicts (outer.filterMap (·.frame)) h₀' → Q (.bool true) { s with heap := h', toks := tk }) :
    wpAny (model prg w) (Ar d (envOf cn cs L a ccd :: outer) gd u) (call (.ref 138) [.ref S, .ref x, .ref 187] []) Q E s := by
  refine wpAny_call ?_
  refine code_defS (g₀ := h₀) (binds := [(Str.ofString "self", .ref S), (Str.ofString "stop", .ref x), (Str.ofString "evaluate", .ref 187)]) B F X N T XB TB D0 KtsTurn.refl rfl (by k_is) (by k_is) (by k_room) (BindsTo.of_eq rfl) (locs rfl) ?_ hck rfl rfl rfl (by decide)
  intro g' L' h' FG' F' N' B' X' T' D'
  dsimp only
  all_goals try k_fold
  k_steps
  · rename_i hq a3 a4 a5 a6
    exact absurd hq (by show ¬ (Str.ofString "ill" == Str.ofString "") = true; decide)
  unfold Halt
  refine worth_ill B' (by assumption) X' (by assumption) T' rfl rfl (by show d + 1 < 900; omega) ?_
  intro h2 tk2 e D g2 tw tw' ta ta' lD FG2 R2
  dsimp only
  refine catch_own R2 FG2 B' XB TB D' (by k_is) (by k_is) (by k_is) rfl rfl rfl ?_ rfl rfl (by decide) rfl
  intro h4 g4 tk4 oe vs neE KT4 F4 N4 hoc hod hof B4 X4 T4 D4
  dsimp only
  all_goals try k_fold
  k_steps
  try dsimp only
  dsimp only at N4 neE lD
  have ne1 : @Ne Nat D dx := Nat.ne_of_gt (lD _ (List.mem_cons_of_mem _ List.mem_cons_self))
  have ne2 : @Ne Nat dx e := neE _ (List.mem_cons_of_mem _ (List.mem_cons_of_mem _ List.mem_cons_self))
  have ne3 : @Ne Nat D e := neE _ List.mem_cons_self
  have ne4 : @Ne Nat e dx := Ne.symm ne2
  refine xc_get (v := .str (Str.ofString "no value") tw') (X4.keeps F4.keep) (N4 _ List.mem_cons_self).1 hoc hod hof (N4 _ (List.mem_cons_of_mem _ List.mem_cons_self)).1 (by k_is) (by k_is) (by k_is) rfl (by k_is) (by k_is) (by k_is) rfl rfl ?_
  all_goals try k_fold
  k_steps
  exact h _ _ ⟨_, _, _, _, _, _, _⟩ _ _ (by assumption) (by assumption) (newsTail (newsTail (by assumption))) (by assumption) (by assumption) (by assumption) (by assumption)
-- part C14
theorem words_C14 : True := by
  k_with_none
  k_with "spliced" => (refine args_nil ?_; (try dsimp only [List.cons_append, List.nil_append]))
  k_with "mem" => ((refine memL ?_); with_reducible assumption)
  k_with "all" => (first | with_reducible assumption | exact Mine.neAll (by with_reducible assumption) | fail "mine")
  k_with "put" => (first | exact put_last | exact put_rows | exact put_cond | exact put_ign | exact put_hits | exact put_on | exact put_trb | fail "mine")
  k_with "room" => (first | exact Mine.rm 0 (by exact rfl) (by with_reducible assumption) (by exact rfl) | exact Mine.rm 1 (by exact rfl) (by with_reducible assumption) (by exact rfl) | exact Mine.rm 2 (by exact rfl) (by with_reducible assumption) (by exact rfl) | exact Mine.rm 3 (by exact rfl) (by with_reducible assumption) (by exact rfl) | exact Mine.rm 4 (by exact rfl) (by with_reducible assumption) (by exact rfl) | (simp only [depth_under_make, depth_under_kw, depth_in1, depth_deeper, recursionLimit]; omega))
  k_with "size" => (first | with_reducible assumption | with_reducible exact Mine.sz0 | with_reducible exact Mine.sz1 | with_reducible exact Mine.sz2 | with_reducible exact Mine.sz3 | with_reducible exact Mine.sz4 | with_reducible exact Mine.sz5 | with_reducible exact Mine.sz6 | exact Mine.sz_lt (by with_reducible assumption) (by exact rfl) | exact Mine.sz_le (by with_reducible assumption) (by exact rfl) | fail "mine")
  k_with "lt" => ((rename AllLt _ _ => hlt9); (try dsimp only [AllLt] at hlt9); (try simp only [and_true] at hlt9); (try first | (have hz8 := AllLt.lt (hlt9)) | (have hz8 := AllLt.lt (hlt9).2) | (have hz8 := AllLt.lt (hlt9).2.2) | (have hz8 := AllLt.lt (hlt9).2.2.2) | (have hz8 := AllLt.lt (hlt9).2.2.2.2) | (have hz8 := AllLt.lt (hlt9).2.2.2.2.2) | (have hz8 := AllLt.lt (hlt9).2.2.2.2.2.2) | (have hz8 := AllLt.lt (hlt9).2.2.2.2.2.2.2) | (have hz8 := AllLt.lt (hlt9).2.2.2.2.2.2.2.2) | (have hz8 := AllLt.lt (hlt9).2.2.2.2.2.2.2.2.2) | (have hz8 := AllLt.lt (hlt9).2.2.2.2.2.2.2.2.2.2) | (have hz8 := AllLt.lt (hlt9).2.2.2.2.2.2.2.2.2.2.2) | (have hz8 := AllLt.lt (hlt9).2.2.2.2.2.2.2.2.2.2.2.2)))
  k_with "ltc" => (first | with_reducible assumption | exact And.left (by with_reducible assumption) | exact And.left (And.right (by with_reducible assumption)) | exact And.left (And.right (And.right (by with_reducible assumption))) | exact And.left (And.right (And.right (And.right (by with_reducible assumption)))) | exact And.left (And.right (And.right (And.right (And.right (by with_reducible assumption))))) | exact And.left (And.right (And.right (And.right (And.right (And.right (by with_reducible assumption)))))) | exact And.left (And.right (And.right (And.right (And.right (And.right (And.right (by with_reducible assumption))))))) | exact And.left (And.right (And.right (And.right (And.right (And.right (And.right (And.right (by with_reducible assumption)))))))) | exact And.left (And.right (And.right (And.right (And.right (And.right (And.right (And.right (And.right (by with_reducible assumption))))))))) | exact And.left (And.right (And.right (And.right (And.right (And.right (And.right (And.right (And.right (And.right (by with_reducible assumption)))))))))) | exact And.right (by with_reducible assumption) | exact And.right (And.right (by with_reducible assumption)) | exact And.right (And.right (And.right (by with_reducible assumption))) | exact And.right (And.right (And.right (And.right (by with_reducible assumption)))) | exact And.right (And.right (And.right (And.right (And.right (by with_reducible assumption))))) | exact And.right (And.right (And.right (And.right (And.right (And.right (by with_reducible assumption)))))) | exact And.right (And.right (And.right (And.right (And.right (And.right (And.right (by with_reducible assumption))))))) | exact And.right (And.right (And.right (And.right (And.right (And.right (And.right (And.right (by with_reducible assumption)))))))) | exact And.right (And.right (And.right (And.right (And.right (And.right (And.right (And.right (And.right (by with_reducible assumption))))))))) | fail "mine")
  k_with "ne" => (first | k_extra "ltc" | ((with_reducible refine' Ne.symm ?_); k_extra "ltc") | ((with_reducible refine' Nat.ne_of_gt ?_); k_extra "ltc") | ((with_reducible refine' Nat.ne_of_lt ?_); k_extra "ltc") | ((with_reducible refine' Nat.ne_of_gt (Nat.lt_succ_of_lt ?_)); k_extra "ltc") | fail "mine")
  k_with "omega" => (first | k_extra "ltc" | with_reducible decide | k_extra "ne" | k_extra "bd" | fail "mine")
  k_with "bd" => (first | with_reducible exact Mine.p7 | ((with_reducible refine' Mine.o1 ?oh ?oe); (case oh => with_reducible assumption); (case oe => exact rfl)) | ((with_reducible refine' Mine.o2 ?oh ?oe); (case oh => with_reducible assumption); (case oe => exact rfl)) | ((with_reducible refine' Mine.o3 ?oh ?oe); (case oh => with_reducible assumption); (case oe => exact rfl)) | ((with_reducible refine' Mine.o4 ?oh ?oe); (case oh => with_reducible assumption); (case oe => exact rfl)) | ((with_reducible refine' Mine.o5 ?oh ?oe); (case oh => with_reducible assumption); (case oe => exact rfl)) | ((with_reducible refine' Mine.o6 ?oh ?oe); (case oh => with_reducible assumption); (case oe => exact rfl)) | ((with_reducible refine' Mine.o7 ?oh ?oe); (case oh => with_reducible assumption); (case oe => exact rfl)) | ((with_reducible refine' Mine.p1 ?oh ?oe); (case oh => with_reducible assumption); (case oe => exact rfl)) | ((with_reducible refine' Mine.p4 ?oh ?oe); (case oh => with_reducible assumption); (case oe => exact rfl)) | ((with_reducible refine' Mine.p6 ?oh ?oe); (case oh => with_reducible assumption); (case oe => exact rfl)) | ((with_reducible refine' Mine.r6 ?oh ?oe); (case oh => with_reducible assumption); (case oe => exact rfl)) | ((with_reducible refine' Mine.r13 ?oh ?oe); (case oh => with_reducible assumption); (case oe => exact rfl)) | ((with_reducible refine' Mine.r14 ?oh ?oe); (case oh => with_reducible assumption); (case oe => exact rfl)) | ((with_reducible refine' Mine.r15 ?oh ?oe); (case oh => with_reducible assumption); (case oe => exact rfl)) | ((with_reducible refine' Mine.r18 ?oh ?oe); (case oh => with_reducible assumption); (case oe => exact rfl)) | ((with_reducible refine' Mine.r19 ?oh ?oe); (case oh => with_reducible assumption); (case oe => exact rfl)) | ((with_reducible refine' Mine.r20 ?oh ?oe); (case oh => with_reducible assumption); (case oe => exact rfl)) | ((with_reducible refine' Mine.r21 ?oh ?oe); (case oh => with_reducible assumption); (case oe => exact rfl)) | ((with_reducible refine' Mine.o8 ?og ?oh ?oe); (case og => with_reducible assumption); (case oh => with_reducible assumption); (case oe => exact rfl)) | ((with_reducible refine' Mine.o9 ?og ?oh ?oe); (case og => with_reducible assumption); (case oh => with_reducible assumption); (case oe => exact rfl)) | ((with_reducible refine' Mine.p5 ?og ?oh ?oe); (case og => with_reducible assumption); (case oh => with_reducible assumption); (case oe => exact rfl)) | ((with_reducible refine' Mine.r5 ?og ?oh ?oe); (case og => with_reducible assumption); (case oh => with_reducible assumption); (case oe => exact rfl)) | ((with_reducible refine' Mine.r1 ?og ?oh); (case og => with_reducible assumption); (case oh => with_reducible assumption)) | ((with_reducible refine' Mine.r3 ?og ?oh); (case og => with_reducible assumption); (case oh => with_reducible assumption)) | ((with_reducible refine' Nat.le_trans ?og ?oh); (case og => with_reducible assumption); (case oh => with_reducible assumption)) | ((with_reducible refine' Mine.r22 ?oh); (case oh => with_reducible assumption)) | ((with_reducible refine' Mine.r23 ?oh); (case oh => with_reducible assumption)) | ((with_reducible refine' Mine.big_lo ?oh); (case oh => with_reducible assumption)) | ((with_reducible refine' Mine.big_hi ?oh); (case oh => with_reducible assumption)) | ((with_reducible refine' Mine.big_ten ?oh); (case oh => with_reducible assumption)) | ((with_reducible refine' Int.ne_of_gt ?_); k_extra "ltc") | ((with_reducible refine' Int.le_of_lt ?_); k_extra "ltc") | with_reducible exact Int.le_refl _ | with_reducible exact Nat.le_succ _ | with_reducible exact Nat.zero_add _ | fail "mine")
  k_with "call builtin:sorted" => ((k_here; (refine' sorted_led ?F ?N ?m ?i ?b ?_; (case F => k_asm); (case N => k_asm); (case m => k_mem); (case i => k_asm); (case b => k_asm); k_whole); intro wD' wvs' wc' wh' wF' wN' wl1' wi'; (try k_lt wl1'); (try dsimp only)))
  k_with "TurnG" => (first | ((with_reducible show TurnG _ _ _ _ _ _ _ (Flow.ret _) _); dsimp only [TurnG]) | ((with_reducible show TurnG _ _ _ _ _ _ _ Flow.brk _); dsimp only [TurnG]))
  k_with "exec Assign cons ListComp" => ((k_here; k_dflt (first
  | (refine LCt.Assign_ListComp_T (F₀ := by k_asm) (by rfl) (by with_unfolding_all rfl) (by with_unfolding_all rfl) (by decide) (by rfl) (by decide) (by rfl) (by rfl) (by rfl) ?_)
  | (refine LCg.Assign_ListComp_U (F₀ := by k_asm) (by rfl) (by with_unfolding_all rfl) (by with_unfolding_all rfl) (by decide) (by rfl) (by decide) (by rfl) (by rfl) (by rfl) ?_))))
  k_with "eval ListComp" => ((k_here; k_dflt (first
  | (refine LCt.ListComp_T (F₀ := by k_asm) (by with_unfolding_all rfl) (by decide) (by rfl) (by decide) (by rfl) ?_)
  | (refine LCg.ListComp_U (F₀ := by k_asm) (by with_unfolding_all rfl) (by decide) (by rfl) (by decide) (by rfl) ?_))))
  k_with "CompSrcT" => (fail "mine: by hand")
  k_with "CompSrc" => (fail "mine: by hand")
  k_with "call builtin:len" => ((k_here; k_dflt (refine' len_led ?N ?m ?b ?_; (case N => k_asm); (case m => k_mem); (case b => first | omega | ((simp only [sxs_size, rxs_size, List.size_toArray, List.length_map, Array.size_push]); omega)); k_whole)))
  k_with "compareOp In int ref" => ((k_here; k_dflt (refine' in_led ?N ?m ?i ?_; (case N => k_asm); (case m => k_mem); (case i => k_asm); k_whole)))
  k_with "compareOp NotIn int ref" => ((k_here; k_dflt (refine' notin_led ?N ?m ?i ?_; (case N => k_asm); (case m => k_mem); (case i => k_asm); k_whole)))
  k_with "setItem ref int" => ((k_here; k_dflt (refine' kda_set (knd := PySem.intKind _ _) ?F ?N ?U ?d (intKind_is _ _ _ _) ?z ?_; (case F => k_asm); (case N => k_asm); (case U => k_updF); (case d => k_asm); (case z => k_asm)); intro wh' wo' wF' wN' whd'; (try dsimp only at wN'); (try k_sweep); (try dsimp only)))
  k_with "setItem ref str" => ((k_here; k_dflt (refine' kda_set (knd := PySem.strKind _ _) ?F ?N ?U ?d (strKind_is _ _ _ _) ?z ?_; (case F => k_asm); (case N => k_asm); (case U => k_updF); (case d => k_asm); (case z => rw [sizeLine_eq]; exact Nat.le_of_ble_eq_true (by with_unfolding_all rfl))); intro wh' wo' wF' wN' whd'; (try first | rw [stored_cond] at whd' | rw [stored_ign] at whd' | rw [stored_hits] at whd' | rw [stored_on] at whd' | rw [stored_trb] at whd'); (try dsimp only at whd'); (try dsimp only at wN'); (try k_sweep); (try dsimp only)))
  k_with "subscriptTail Name" => ((k_here; (with_reducible show wpAny _ _ (subscriptTail _ _ (Value.ref _) (Value.str _ _)) _ _ _); k_dflt (refine kda_item (knd := PySem.strKind _ _) (by k_asm) (by k_mem) (by k_asm) (strKind_is _ _ _ _) (by rfl) ?_); (try dsimp only)))
  k_with "getItem ref str" => ((k_here; k_dflt (refine kdt_getItem (knd := PySem.strKind _ _) (by k_asm) (by k_mem) (by k_asm) (strKind_is _ _ _ _) (by rfl) ?_); (try dsimp only)))
  k_with "subscriptTail" => ((k_here; (with_reducible show wpAny _ _ (subscriptTail _ _ (Value.ref _) (Value.int _ _)) _ _ _); k_dflt (first
  | (refine' item_menu menu6 6 ?N ?m ?a ?b ?c (menu6_at _ _ _ _ _ _) ?_ (by with_unfolding_all rfl); (case N => k_asm); (case m => k_mem); (case a => exact fmod_ge _ _ (by decide)); (case b => exact fmod_lt' _ _ (by decide)); (case c => decide); k_whole)
  | (refine' item_menu menu2 2 ?N ?m ?a ?b ?c (menu2_at _ _) ?_ (by with_unfolding_all rfl); (case N => k_asm); (case m => k_mem); (case a => exact fmod_ge _ _ (by decide)); (case b => exact fmod_lt' _ _ (by decide)); (case c => decide); k_whole)
  | (refine' item_menu kindOf 2 ?N ?m ?a ?b ?c (kinds_at _ _) ?_ (by with_unfolding_all rfl); (case N => k_asm); (case m => k_mem); (case a => exact fmod_ge _ _ (by decide)); (case b => exact fmod_lt' _ _ (by decide)); (case c => decide); k_whole)); intro wtz'; (try dsimp only)))
  k_with "subscriptTail Name Name" => ((k_here; (with_reducible show wpAny _ _ (subscriptTail _ _ (Value.ref _) (Value.int _ _)) _ _ _); k_dflt (refine' item_int ?N ?m ?i ?a ?b ?c ?_ (by with_unfolding_all rfl); (case N => k_asm); (case m => k_mem); (case i => k_asm); (case a => omega); (case b => first | omega | (simp only [List.size_toArray] at *; omega)); (case c => omega); k_whole); intro wtz' whz'; (try dsimp only)))
  k_with "eval Name" => ((k_here; k_dflt (refine' ld ?k1 ?k2 ?_; (case k1 => k_asm); (case k2 => assumption); k_whole)))
  k_with "call builtin:list.append" => ((k_here; (with_reducible show wpAny _ _ (call (Value.builtin _) [Value.ref _, _]) _ _ _); k_dflt (refine' append_K ?k1 ?k2 ?k3 ?_ ?z; (case k1 => k_asm); (case k2 => k_asm); (case k3 => k_upd); (case z => first | size_fits | ((rw [sizeLine_eq]; simp only [List.size_toArray]); omega)); k_whole); intro wh' wF' wN'; (try k_sweep)))
  k_with "getItem ref str" => (((fail_if_success (with_reducible show wpAny _ _ (getItem _ (Value.str (PySem.Str.ofString _) _)) _ _ _)); refine stopHere ?_))
  trivial
theorem put_trbL {P : Params} {k : KTok} {pl : Addr} {t : VTok} {t' : Tok} {n : Nat} {hh : Int} {kk : Value} {num ign hits : Int} {kind text cond trb z : Str} {on : Bool} : (putL "trouble" hh kk (.str z t') (stopEs P k ⟨num, kind, text, cond, ign, hits, on, trb⟩ pl t), putN "trouble" (stopEs P k ⟨num, kind, text, cond, ign, hits, on, trb⟩ pl t) n) = (stopEs P k ⟨num, kind, text, cond, ign, hits, on, z⟩ pl { t with v9 := t' }, n) := rfl
theorem put14 : True := by
  k_with "put" => (exact put_trbL)
  trivial
set_option maxRecDepth 100000 in
set_option maxHeartbeats 8000000 in
theorem is_true_plain {cn : Str} {cs : Scope} {ccd : Value} {a : Addr} {S x dx dS sp R : Addr} {num ign hits : Int} {kind text cond trb : Str} {on : Bool} {tv : VTok} {kt : KTok} {n nS : Nat} {k0 k1 t0 : Tok} {last : Int}
    (B : Below A₀ base outer h₀) (F : Fr h₀ L s.heap m) (X : (hd.heap_39 w.params).In h₀) (N : News h₀ L s.heap ((x, instObj 82 dx) :: (dx, dictOf (stopEs w.params kt ⟨num, kind, text, cond, ign, hits, on, trb⟩ sp tv) n) :: (S, instObj 148 dS) :: (dS, dictOf (stopsEs w.params k0 k1 R last t0) nS) :: rest)) (T : TopM mean mg mb h₀) (hck : cs.kind = .function) (hd' : d < 890)
    (XB : (hd.heap_39 w.params).In base) (TB : TopM mean mg mb base) (D0 : KtsDicts (outer.filterMap (·.frame)) h₀)
    (h3 : @Ne Nat x dx) (hdx : ∀ p ∈ (S, instObj 148 dS) :: (dS, dictOf (stopsEs w.params k0 k1 R last t0) nS) :: rest, p.1 ≠ dx) (hc : cond = Str.ofString "no" ∨ cond = Str.ofString "yes" ∨ cond = Str.ofString "less")
    (h : ∀ h' tk tv' n' h₀', KtsTurn (outer.filterMap (·.frame)) h₀ h₀' → Fr h₀' L h' m → News h₀' L h' ((x, instObj 82 dx) :: (dx, dictOf (stopEs w.params kt ⟨num, kind, text, cond, ign, hits, on, Str.ofString ""⟩ sp tv') n') :: (S, instObj 148 dS) :: (dS, dictOf (stopsEs w.params k0 k1 R last t0) nS) :: rest) →
      Below A₀ base outer h₀' → (hd.heap_39 w.params).In h₀' → TopM mean mg mb h₀' → KtsDicts (outer.filterMap (·.frame)) h₀' → Q (.bool (if cond = Str.ofString "no" then false else true)) { s with heap := h', toks := tk }) :
    wpAny (model prg w) (Ar d (envOf cn cs L a ccd :: outer) gd u) (call (.ref 138) [.ref S, .ref x, .ref 187] []) Q E s := by
  have q0 : ¬ (cond == Str.ofString "") = true := by rcases hc with rfl | rfl | rfl <;> decide +kernel
  have q1 : ¬ (cond == Str.ofString "gone") = true := by rcases hc with rfl | rfl | rfl <;> decide +kernel
  have q2 : ¬ (cond == Str.ofString "ill") = true := by rcases hc with rfl | rfl | rfl <;> decide +kernel
  have hz := fun h' tk tv' n' f nn => h h' tk tv' n' h₀ KtsTurn.refl f nn B X T D0
  refine wpAny_call ?_
  refine code_def (binds := [(Str.ofString "self", .ref S), (Str.ofString "stop", .ref x), (Str.ofString "evaluate", .ref 187)]) B F X N T rfl rfl hck (by k_is) (by k_is) (by k_room) (BindsTo.of_eq rfl) (locs rfl) ?_ rfl rfl rfl (by decide)
  intro g' L' h' FG' F' N' B' X' T'
  dsimp only
  all_goals try k_fold
  k_steps
  unfold Halt
  refine cutV (P := fun v => ∃ k t, v = Value.int k t ∧ (k != 0) = if cond = Str.ofString "no" then false else true) ?_ ?_
  · rcases hc with rfl | rfl | rfl
    all_goals k_steps
    all_goals exact ⟨_, rfl, _, _, rfl, rfl⟩
  rintro v tk' ⟨k, tq, rfl, hk⟩
  dsimp only
  all_goals try k_fold
  k_steps
  rw [← hk] at hz
  exact hz _ _ ⟨_, _, _, _, _, _, _⟩ _ (by assumption) (newsTail (by assumption))
set_option maxRecDepth 100000 in
set_option maxHeartbeats 8000000 in
theorem is_true_spec {cn : Str} {cs : Scope} {ccd : Value} {a : Addr} {S x dx dS sp R : Addr} {num ign hits : Int} {kind text cond trb : Str} {on : Bool} {tv : VTok} {kt : KTok} {n nS : Nat} {k0 k1 t0 : Tok} {last : Int}
    (B : Below A₀ base outer h₀) (F : Fr h₀ L s.heap m) (X : (hd.heap_39 w.params).In h₀) (N : News h₀ L s.heap ((x, instObj 82 dx) :: (dx, dictOf (stopEs w.params kt ⟨num, kind, text, cond, ign, hits, on, trb⟩ sp tv) n) :: (S, instObj 148 dS) :: (dS, dictOf (stopsEs w.params k0 k1 R last t0) nS) :: rest)) (T : TopM mean mg mb h₀) (hck : cs.kind = .function) (hd' : d < 890)
    (XB : (hd.heap_39 w.params).In base) (TB : TopM mean mg mb base) (D0 : KtsDicts (outer.filterMap (·.frame)) h₀)
    (h3 : @Ne Nat x dx) (hdx : ∀ p ∈ (S, instObj 148 dS) :: (dS, dictOf (stopsEs w.params k0 k1 R last t0) nS) :: rest, p.1 ≠ dx) (hc : CondOk cond)
    (h : ∀ h' tk tv' n' h₀', KtsTurn (outer.filterMap (·.frame)) h₀ h₀' → Fr h₀' L h' m → News h₀' L h' ((x, instObj 82 dx) :: (dx, dictOf (stopEs w.params kt ⟨num, kind, text, cond, ign, hits, on, troubleOf cond⟩ sp tv') n') :: (S, instObj 148 dS) :: (dS, dictOf (stopsEs w.params k0 k1 R last t0) nS) :: rest) →
      Below A₀ base outer h₀' → (hd.heap_39 w.params).In h₀' → TopM mean mg mb h₀' → KtsDicts (outer.filterMap (·.frame)) h₀' → Q (.bool (if cond = Str.ofString "no" then false else true)) { s with heap := h', toks := tk }) :
    wpAny (model prg w) (Ar d (envOf cn cs L a ccd :: outer) gd u) (call (.ref 138) [.ref S, .ref x, .ref 187] []) Q E s := by
  rcases hc with rfl | rfl | rfl | rfl | rfl | rfl
  · exact is_true_plain B F X N T hck hd' XB TB D0 h3 hdx (.inl rfl) h
  · exact is_true_plain B F X N T hck hd' XB TB D0 h3 hdx (.inr (.inl rfl)) h
  · exact is_true_gone B F X N T hck hd' XB TB D0 h3 hdx h
  · exact is_true_plain B F X N T hck hd' XB TB D0 h3 hdx (.inr (.inr rfl)) h
  · rw [if_neg (by decide)] at h
    have hz := fun h' tk tv' n' f nn => h h' tk tv' n' h₀ KtsTurn.refl f nn B X T D0
    refine wpAny_call ?_
    refine code_def (binds := [(Str.ofString "self", .ref S), (Str.ofString "stop", .ref x), (Str.ofString "evaluate", .ref 187)]) B F X N T rfl rfl hck (by k_is) (by k_is) (by k_room) (BindsTo.of_eq rfl) (locs rfl) ?_ rfl rfl rfl (by decide)
    intro g' L' h' FG' F' N' B' X' T'
    dsimp only
    have q0 : (Str.ofString "" == Str.ofString "") = true := by decide +kernel
    all_goals try k_fold
    k_steps
    exact hz _ _ ⟨_, _, _, _, _, _, _⟩ _ (by assumption) (by assumption)
  · exact is_true_ill B F X N T hck hd' XB TB D0 h3 hdx h
-- part C15
theorem words_C15 : True := by
  k_with_none
  k_with "spliced" => (refine args_nil ?_; (try dsimp only [List.cons_append, List.nil_append]))
  k_with "mem" => ((refine memL ?_); with_reducible assumption)
  k_with "all" => (first | with_reducible assumption | exact Mine.neAll (by with_reducible assumption) | fail "mine")
  k_with "put" => (first | exact put_last | exact put_rows | exact put_cond | exact put_ign | exact put_hits | exact put_on | exact put_trb | fail "mine")
  k_with "room" => (first | exact Mine.rm 0 (by exact rfl) (by with_reducible assumption) (by exact rfl) | exact Mine.rm 1 (by exact rfl) (by with_reducible assumption) (by exact rfl) | exact Mine.rm 2 (by exact rfl) (by with_reducible assumption) (by exact rfl) | exact Mine.rm 3 (by exact rfl) (by with_reducible assumption) (by exact rfl) | exact Mine.rm 4 (by exact rfl) (by with_reducible assumption) (by exact rfl) | (simp only [depth_under_make, depth_under_kw, depth_in1, depth_deeper, recursionLimit]; omega))
  k_with "size" => (first | with_reducible assumption | with_reducible exact Mine.sz0 | with_reducible exact Mine.sz1 | with_reducible exact Mine.sz2 | with_reducible exact Mine.sz3 | with_reducible exact Mine.sz4 | with_reducible exact Mine.sz5 | with_reducible exact Mine.sz6 | exact Mine.sz_lt (by with_reducible assumption) (by exact rfl) | exact Mine.sz_le (by with_reducible assumption) (by exact rfl) | fail "mine")
  k_with "lt" => ((rename AllLt _ _ => hlt9); (try dsimp only [AllLt] at hlt9); (try simp only [and_true] at hlt9); (try first | (have hz8 := AllLt.lt (hlt9)) | (have hz8 := AllLt.lt (hlt9).2) | (have hz8 := AllLt.lt (hlt9).2.2) | (have hz8 := AllLt.lt (hlt9).2.2.2) | (have hz8 := AllLt.lt (hlt9).2.2.2.2) | (have hz8 := AllLt.lt (hlt9).2.2.2.2.2) | (have hz8 := AllLt.lt (hlt9).2.2.2.2.2.2) | (have hz8 := AllLt.lt (hlt9).2.2.2.2.2.2.2) | (have hz8 := AllLt.lt (hlt9).2.2.2.2.2.2.2.2) | (have hz8 := AllLt.lt (hlt9).2.2.2.2.2.2.2.2.2) | (have hz8 := AllLt.lt (hlt9).2.2.2.2.2.2.2.2.2.2) | (have hz8 := AllLt.lt (hlt9).2.2.2.2.2.2.2.2.2.2.2) | (have hz8 := AllLt.lt (hlt9).2.2.2.2.2.2.2.2.2.2.2.2)))
  k_with "ltc" => (first | with_reducible assumption | exact And.left (by with_reducible assumption) | exact And.left (And.right (by with_reducible assumption)) | exact And.left (And.right (And.right (by with_reducible assumption))) | exact And.left (And.right (And.right (And.right (by with_reducible assumption)))) | exact And.left (And.right (And.right (And.right (And.right (by with_reducible assumption))))) | exact And.left (And.right (And.right (And.right (And.right (And.right (by with_reducible assumption)))))) | exact And.left (And.right (And.right (And.right (And.right (And.right (And.right (by with_reducible assumption))))))) | exact And.left (And.right (And.right (And.right (And.right (And.right (And.right (And.right (by with_reducible assumption)))))))) | exact And.left (And.right (And.right (And.right (And.right (And.right (And.right (And.right (And.right (by with_reducible assumption))))))))) | exact And.left (And.right (And.right (And.right (And.right (And.right (And.right (And.right (And.right (And.right (by with_reducible assumption)))))))))) | exact And.right (by with_reducible assumption) | exact And.right (And.right (by with_reducible assumption)) | exact And.right (And.right (And.right (by with_reducible assumption))) | exact And.right (And.right (And.right (And.right (by with_reducible assumption)))) | exact And.right (And.right (And.right (And.right (And.right (by with_reducible assumption))))) | exact And.right (And.right (And.right (And.right (And.right (And.right (by with_reducible assumption)))))) | exact And.right (And.right (And.right (And.right (And.right (And.right (And.right (by with_reducible assumption))))))) | exact And.right (And.right (And.right (And.right (And.right (And.right (And.right (And.right (by with_reducible assumption)))))))) | exact And.right (And.right (And.right (And.right (And.right (And.right (And.right (And.right (And.right (by with_reducible assumption))))))))) | fail "mine")
  k_with "ne" => (first | k_extra "ltc" | ((with_reducible refine' Ne.symm ?_); k_extra "ltc") | ((with_reducible refine' Nat.ne_of_gt ?_); k_extra "ltc") | ((with_reducible refine' Nat.ne_of_lt ?_); k_extra "ltc") | ((with_reducible refine' Nat.ne_of_gt (Nat.lt_succ_of_lt ?_)); k_extra "ltc") | fail "mine")
  k_with "omega" => (first | k_extra "ltc" | with_reducible decide | k_extra "ne" | k_extra "bd" | fail "mine")
  k_with "bd" => (first | with_reducible exact Mine.p7 | ((with_reducible refine' Mine.o1 ?oh ?oe); (case oh => with_reducible assumption); (case oe => exact rfl)) | ((with_reducible refine' Mine.o2 ?oh ?oe); (case oh => with_reducible assumption); (case oe => exact rfl)) | ((with_reducible refine' Mine.o3 ?oh ?oe); (case oh => with_reducible assumption); (case oe => exact rfl)) | ((with_reducible refine' Mine.o4 ?oh ?oe); (case oh => with_reducible assumption); (case oe => exact rfl)) | ((with_reducible refine' Mine.o5 ?oh ?oe); (case oh => with_reducible assumption); (case oe => exact rfl)) | ((with_reducible refine' Mine.o6 ?oh ?oe); (case oh => with_reducible assumption); (case oe => exact rfl)) | ((with_reducible refine' Mine.o7 ?oh ?oe); (case oh => with_reducible assumption); (case oe => exact rfl)) | ((with_reducible refine' Mine.p1 ?oh ?oe); (case oh => with_reducible assumption); (case oe => exact rfl)) | ((with_reducible refine' Mine.p4 ?oh ?oe); (case oh => with_reducible assumption); (case oe => exact rfl)) | ((with_reducible refine' Mine.p6 ?oh ?oe); (case oh => with_reducible assumption); (case oe => exact rfl)) | ((with_reducible refine' Mine.r6 ?oh ?oe); (case oh => with_reducible assumption); (case oe => exact rfl)) | ((with_reducible refine' Mine.r13 ?oh ?oe); (case oh => with_reducible assumption); (case oe => exact rfl)) | ((with_reducible refine' Mine.r14 ?oh ?oe); (case oh => with_reducible assumption); (case oe => exact rfl)) | ((with_reducible refine' Mine.r15 ?oh ?oe); (case oh => with_reducible assumption); (case oe => exact rfl)) | ((with_reducible refine' Mine.r18 ?oh ?oe); (case oh => with_reducible assumption); (case oe => exact rfl)) | ((with_reducible refine' Mine.r19 ?oh ?oe); (case oh => with_reducible assumption); (case oe => exact rfl)) | ((with_reducible refine' Mine.r20 ?oh ?oe); (case oh => with_reducible assumption); (case oe => exact rfl)) | ((with_reducible refine' Mine.r21 ?oh ?oe); (case oh => with_reducible assumption); (case oe => exact rfl)) | ((with_reducible refine' Mine.o8 ?og ?oh ?oe); (case og => with_reducible assumption); (case oh => with_reducible assumption); (case oe => exact rfl)) | ((with_reducible refine' Mine.o9 ?og ?oh ?oe); (case og => with_reducible assumption); (case oh => with_reducible assumption); (case oe => exact rfl)) | ((with_reducible refine' Mine.p5 ?og ?oh ?oe); (case og => with_reducible assumption); (case oh => with_reducible assumption); (case oe => exact rfl)) | ((with_reducible refine' Mine.r5 ?og ?oh ?oe); (case og => with_reducible assumption); (case oh => with_reducible assumption); (case oe => exact rfl)) | ((with_reducible refine' Mine.r1 ?og ?oh); (case og => with_reducible assumption); (case oh => with_reducible assumption)) | ((with_reducible refine' Mine.r3 ?og ?oh); (case og => with_reducible assumption); (case oh => with_reducible assumption)) | ((with_reducible refine' Nat.le_trans ?og ?oh); (case og => with_reducible assumption); (case oh => with_reducible assumption)) | ((with_reducible refine' Mine.r22 ?oh); (case oh => with_reducible assumption)) | ((with_reducible refine' Mine.r23 ?oh); (case oh => with_reducible assumption)) | ((with_reducible refine' Mine.big_lo ?oh); (case oh => with_reducible assumption)) | ((with_reducible refine' Mine.big_hi ?oh); (case oh => with_reducible assumption)) | ((with_reducible refine' Mine.big_ten ?oh); (case oh => with_reducible assumption)) | ((with_reducible refine' Int.ne_of_gt ?_); k_extra "ltc") | ((with_reducible refine' Int.le_of_lt ?_); k_extra "ltc") | with_reducible exact Int.le_refl _ | with_reducible exact Nat.le_succ _ | with_reducible exact Nat.zero_add _ | fail "mine")
  k_with "call builtin:sorted" => ((k_here; (refine' sorted_led ?F ?N ?m ?i ?b ?_; (case F => k_asm); (case N => k_asm); (case m => k_mem); (case i => k_asm); (case b => k_asm); k_whole); intro wD' wvs' wc' wh' wF' wN' wl1' wi'; (try k_lt wl1'); (try dsimp only)))
  k_with "TurnG" => (first | ((with_reducible show TurnG _ _ _ _ _ _ _ (Flow.ret _) _); dsimp only [TurnG]) | ((with_reducible show TurnG _ _ _ _ _ _ _ Flow.brk _); dsimp only [TurnG]))
  k_with "exec Assign cons ListComp" => ((k_here; k_dflt (first
  | (refine LCt.Assign_ListComp_T (F₀ := by k_asm) (by rfl) (by with_unfolding_all rfl) (by with_unfolding_all rfl) (by decide) (by rfl) (by decide) (by rfl) (by rfl) (by rfl) ?_)
  | (refine LCg.Assign_ListComp_U (F₀ := by k_asm) (by rfl) (by with_unfolding_all rfl) (by with_unfolding_all rfl) (by decide) (by rfl) (by decide) (by rfl) (by rfl) (by rfl) ?_))))
  k_with "eval ListComp" => ((k_here; k_dflt (first
  | (refine LCt.ListComp_T (F₀ := by k_asm) (by with_unfolding_all rfl) (by decide) (by rfl) (by decide) (by rfl) ?_)
  | (refine LCg.ListComp_U (F₀ := by k_asm) (by with_unfolding_all rfl) (by decide) (by rfl) (by decide) (by rfl) ?_))))
  k_with "CompSrcT" => (fail "mine: by hand")
  k_with "CompSrc" => (fail "mine: by hand")
  k_with "call builtin:len" => ((k_here; k_dflt (refine' len_led ?N ?m ?b ?_; (case N => k_asm); (case m => k_mem); (case b => first | omega | ((simp only [sxs_size, rxs_size, List.size_toArray, List.length_map, Array.size_push]); omega)); k_whole)))
  k_with "compareOp In int ref" => ((k_here; k_dflt (refine' in_led ?N ?m ?i ?_; (case N => k_asm); (case m => k_mem); (case i => k_asm); k_whole)))
  k_with "compareOp NotIn int ref" => ((k_here; k_dflt (refine' notin_led ?N ?m ?i ?_; (case N => k_asm); (case m => k_mem); (case i => k_asm); k_whole)))
  k_with "setItem ref int" => ((k_here; k_dflt (refine' kda_set (knd := PySem.intKind _ _) ?F ?N ?U ?d (intKind_is _ _ _ _) ?z ?_; (case F => k_asm); (case N => k_asm); (case U => k_updF); (case d => k_asm); (case z => k_asm)); intro wh' wo' wF' wN' whd'; (try dsimp only at wN'); (try k_sweep); (try dsimp only)))
  k_with "setItem ref str" => ((k_here; k_dflt (refine' kda_set (knd := PySem.strKind _ _) ?F ?N ?U ?d (strKind_is _ _ _ _) ?z ?_; (case F => k_asm); (case N => k_asm); (case U => k_updF); (case d => k_asm); (case z => rw [sizeLine_eq]; exact Nat.le_of_ble_eq_true (by with_unfolding_all rfl))); intro wh' wo' wF' wN' whd'; (try first | rw [stored_cond] at whd' | rw [stored_ign] at whd' | rw [stored_hits] at whd' | rw [stored_on] at whd' | rw [stored_trb] at whd'); (try dsimp only at whd'); (try dsimp only at wN'); (try k_sweep); (try dsimp only)))
  k_with "subscriptTail Name" => ((k_here; (with_reducible show wpAny _ _ (subscriptTail _ _ (Value.ref _) (Value.str _ _)) _ _ _); k_dflt (refine kda_item (knd := PySem.strKind _ _) (by k_asm) (by k_mem) (by k_asm) (strKind_is _ _ _ _) (by rfl) ?_); (try dsimp only)))
  k_with "getItem ref str" => ((k_here; k_dflt (refine kdt_getItem (knd := PySem.strKind _ _) (by k_asm) (by k_mem) (by k_asm) (strKind_is _ _ _ _) (by rfl) ?_); (try dsimp only)))
  k_with "subscriptTail" => ((k_here; (with_reducible show wpAny _ _ (subscriptTail _ _ (Value.ref _) (Value.int _ _)) _ _ _); k_dflt (first
  | (refine' item_menu menu6 6 ?N ?m ?a ?b ?c (menu6_at _ _ _ _ _ _) ?_ (by with_unfolding_all rfl); (case N => k_asm); (case m => k_mem); (case a => exact fmod_ge _ _ (by decide)); (case b => exact fmod_lt' _ _ (by decide)); (case c => decide); k_whole)
  | (refine' item_menu menu2 2 ?N ?m ?a ?b ?c (menu2_at _ _) ?_ (by with_unfolding_all rfl); (case N => k_asm); (case m => k_mem); (case a => exact fmod_ge _ _ (by decide)); (case b => exact fmod_lt' _ _ (by decide)); (case c => decide); k_whole)
  | (refine' item_menu kindOf 2 ?N ?m ?a ?b ?c (kinds_at _ _) ?_ (by with_unfolding_all rfl); (case N => k_asm); (case m => k_mem); (case a => exact fmod_ge _ _ (by decide)); (case b => exact fmod_lt' _ _ (by decide)); (case c => decide); k_whole)); intro wtz'; (try dsimp only)))
  k_with "subscriptTail Name Name" => ((k_here; (with_reducible show wpAny _ _ (subscriptTail _ _ (Value.ref _) (Value.int _ _)) _ _ _); k_dflt (refine' item_int ?N ?m ?i ?a ?b ?c ?_ (by with_unfolding_all rfl); (case N => k_asm); (case m => k_mem); (case i => k_asm); (case a => omega); (case b => first | omega | (simp only [List.size_toArray] at *; omega)); (case c => omega); k_whole); intro wtz' whz'; (try dsimp only)))
  k_with "eval Name" => ((k_here; k_dflt (refine' ld ?k1 ?k2 ?_; (case k1 => k_asm); (case k2 => assumption); k_whole)))
  k_with "call builtin:list.append" => ((k_here; (with_reducible show wpAny _ _ (call (Value.builtin _) [Value.ref _, _]) _ _ _); k_dflt (refine' append_K ?k1 ?k2 ?k3 ?_ ?z; (case k1 => k_asm); (case k2 => k_asm); (case k3 => k_upd); (case z => first | size_fits | ((rw [sizeLine_eq]; simp only [List.size_toArray]); omega)); k_whole); intro wh' wF' wN'; (try k_sweep)))
  k_with "call ref" => (((with_reducible show wpAny _ _ (call (Value.ref 138) _) _ _ _); refine stopHere ?_))
  trivial
set_option maxRecDepth 100000 in
set_option maxHeartbeats 8000000 in
theorem asked_spec {S x dx dS sp R : Addr} {i : Dat} {tv : VTok} {kt : KTok} {n nS : Nat} {k0 k1 t0 : Tok} {last : Int}
    (B : Below A₀ base [] h₀) (F : Fr h₀ L s.heap m) (X : (hd.heap_39 w.params).In h₀) (N : News h₀ L s.heap ((x, instObj 82 dx) :: (dx, dictOf (stopEs w.params kt i sp tv) n) :: (S, instObj 148 dS) :: (dS, dictOf (stopsEs w.params k0 k1 R last t0) nS) :: rest)) (T : TopM mean mg mb h₀) (hf : env.frame = some L) (hk : env.scope.kind = .function) (hd' : d < 880)
    (XB : (hd.heap_39 w.params).In base) (TB : TopM mean mg mb base)
    (h3 : @Ne Nat x dx) (hdx : ∀ p ∈ (S, instObj 148 dS) :: (dS, dictOf (stopsEs w.params k0 k1 R last t0) nS) :: rest, p.1 ≠ dx) (hc : CondOk i.cond) (h0 : 0 ≤ i.ign) (h1 : i.ign < 1000) (h2 : 0 ≤ i.hits) (h30 : i.hits < 1000)
    (h : ∀ h' tk tv' n', Fr h₀ L h' m → News h₀ L h' ((x, instObj 82 dx) :: (dx, dictOf (stopEs w.params kt (askS i) sp tv') n') :: (S, instObj 148 dS) :: (dS, dictOf (stopsEs w.params k0 k1 R last t0) nS) :: rest) → Q (.bool (askR i)) { s with heap := h', toks := tk }) :
    wpAny (model prg w) (Ar d [env] gd u) (call (.ref 145) [.ref S, .ref x, .ref 187] []) Q E s := by
  refine hold fun H9 hH9 => ?_
  obtain ⟨num, kind, text, cond, ign, hits, on, trb⟩ := i
  refine hH9 ?_
  clear hH9 H9
  dsimp only at hc h0 h1 h2 h30
  have haS : askS ⟨num, kind, text, cond, ign, hits, on, trb⟩ = if cond = Str.ofString "no" then ⟨num, kind, text, cond, ign, hits, on, troubleOf cond⟩ else ⟨num, kind, text, cond, if 0 < ign then ign - 1 else ign, hits + 1, on, troubleOf cond⟩ := rfl
  have haR : askR ⟨num, kind, text, cond, ign, hits, on, trb⟩ = if cond = Str.ofString "no" then false else if 0 < ign then false else true := rfl
  refine wpAny_call ?_
  refine code_def0 (binds := [(Str.ofString "self", .ref S), (Str.ofString "stop", .ref x), (Str.ofString "evaluate", .ref 187)]) B F X N T rfl hf hk (by k_is) (by k_is) (by k_room) (BindsTo.of_eq rfl) (locs rfl) ?_ rfl rfl rfl (by decide)
  intro g' L' h' FG' F' N' B' X' T' D'
  dsimp only
  all_goals try k_fold
  k_steps
  unfold Halt
  refine is_true_spec B' (by assumption) X' (by assumption) T' rfl (by show d + 1 < 890; omega) XB TB D' h3 hdx hc ?_
  intro h4 tk4 tv4 n4 g4 KT4 F4 N4 B4 X4 T4 D4
  clear F' N' B' X' T' D' FG'
  by_cases hn : cond = Str.ofString "no"
  · rw [if_pos hn]
    rw [haS, haR, if_pos hn, if_pos hn] at h
    all_goals try k_fold
    k_steps
    exact h _ _ _ _ (by assumption) (by assumption)
  · rw [if_neg hn]
    rw [haS, haR, if_neg hn, if_neg hn] at h
    all_goals try k_fold
    k_steps
    · rename 0 < ign => q
      rw [if_pos q, if_pos q] at h
      exact h _ _ ⟨_, _, _, _, _, _, _⟩ _ (by assumption) (by assumption)
    · rename ¬ 0 < ign => q
      rw [if_neg q, if_neg q] at h
      exact h _ _ ⟨_, _, _, _, _, _, _⟩ _ (by assumption) (by assumption)
-- part C17
theorem words_C17 : True := by
  k_with_none
  k_with "spliced" => (refine args_nil ?_; (try dsimp only [List.cons_append, List.nil_append]))
  k_with "mem" => ((refine memL ?_); with_reducible assumption)
  k_with "all" => (first | with_reducible assumption | exact Mine.neAll (by with_reducible assumption) | fail "mine")
  k_with "put" => (first | exact put_last | exact put_rows | exact put_cond | exact put_ign | exact put_hits | exact put_on | exact put_trb | fail "mine")
  k_with "room" => (first | exact Mine.rm 0 (by exact rfl) (by with_reducible assumption) (by exact rfl) | exact Mine.rm 1 (by exact rfl) (by with_reducible assumption) (by exact rfl) | exact Mine.rm 2 (by exact rfl) (by with_reducible assumption) (by exact rfl) | exact Mine.rm 3 (by exact rfl) (by with_reducible assumption) (by exact rfl) | exact Mine.rm 4 (by exact rfl) (by with_reducible assumption) (by exact rfl) | (simp only [depth_under_make, depth_under_kw, depth_in1, depth_deeper, recursionLimit]; omega))
  k_with "size" => (first | with_reducible assumption | with_reducible exact Mine.sz0 | with_reducible exact Mine.sz1 | with_reducible exact Mine.sz2 | with_reducible exact Mine.sz3 | with_reducible exact Mine.sz4 | with_reducible exact Mine.sz5 | with_reducible exact Mine.sz6 | exact Mine.sz_lt (by with_reducible assumption) (by exact rfl) | exact Mine.sz_le (by with_reducible assumption) (by exact rfl) | fail "mine")
  k_with "lt" => ((rename AllLt _ _ => hlt9); (try dsimp only [AllLt] at hlt9); (try simp only [and_true] at hlt9); (try first | (have hz8 := AllLt.lt (hlt9)) | (have hz8 := AllLt.lt (hlt9).2) | (have hz8 := AllLt.lt (hlt9).2.2) | (have hz8 := AllLt.lt (hlt9).2.2.2) | (have hz8 := AllLt.lt (hlt9).2.2.2.2) | (have hz8 := AllLt.lt (hlt9).2.2.2.2.2) | (have hz8 := AllLt.lt (hlt9).2.2.2.2.2.2) | (have hz8 := AllLt.lt (hlt9).2.2.2.2.2.2.2) | (have hz8 := AllLt.lt (hlt9).2.2.2.2.2.2.2.2) | (have hz8 := AllLt.lt (hlt9).2.2.2.2.2.2.2.2.2) | (have hz8 := AllLt.lt (hlt9).2.2.2.2.2.2.2.2.2.2) | (have hz8 := AllLt.lt (hlt9).2.2.2.2.2.2.2.2.2.2.2) | (have hz8 := AllLt.lt (hlt9).2.2.2.2.2.2.2.2.2.2.2.2)))
  k_with "ltc" => (first | with_reducible assumption | exact And.left (by with_reducible assumption) | exact And.left (And.right (by with_reducible assumption)) | exact And.left (And.right (And.right (by with_reducible assumption))) | exact And.left (And.right (And.right (And.right (by with_reducible assumption)))) | exact And.left (And.right (And.right (And.right (And.right (by with_reducible assumption))))) | exact And.left (And.right (And.right (And.right (And.right (And.right (by with_reducible assumption)))))) | exact And.left (And.right (And.right (And.right (And.right (And.right (And.right (by with_reducible assumption))))))) | exact And.left (And.right (And.right (And.right (And.right (And.right (And.right (And.right (by with_reducible assumption)))))))) | exact And.left (And.right (And.right (And.right (And.right (And.right (And.right (And.right (And.right (by with_reducible assumption))))))))) | exact And.left (And.right (And.right (And.right (And.right (And.right (And.right (And.right (And.right (And.right (by with_reducible assumption)))))))))) | exact And.right (by with_reducible assumption) | exact And.right (And.right (by with_reducible assumption)) | exact And.right (And.right (And.right (by with_reducible assumption))) | exact And.right (And.right (And.right (And.right (by with_reducible assumption)))) | exact And.right (And.right (And.right (And.right (And.right (by with_reducible assumption))))) | exact And.right (And.right (And.right (And.right (And.right (And.right (by with_reducible assumption)))))) | exact And.right (And.right (And.right (And.right (And.right (And.right (And.right (by with_reducible assumption))))))) | exact And.right (And.right (And.right (And.right (And.right (And.right (And.right (And.right (by with_reducible assumption)))))))) | exact And.right (And.right (And.right (And.right (And.right (And.right (And.right (And.right (And.right (by with_reducible assumption))))))))) | fail "mine")
  k_with "ne" => (first | k_extra "ltc" | ((with_reducible refine' Ne.symm ?_); k_extra "ltc") | ((with_reducible refine' Nat.ne_of_gt ?_); k_extra "ltc") | ((with_reducible refine' Nat.ne_of_lt ?_); k_extra "ltc") | ((with_reducible refine' Nat.ne_of_gt (Nat.lt_succ_of_lt ?_)); k_extra "ltc") | fail "mine")
  k_with "omega" => (first | k_extra "ltc" | with_reducible decide | k_extra "ne" | k_extra "bd" | fail "mine")
  k_with "bd" => (first | with_reducible exact Mine.p7 | ((with_reducible refine' Mine.o1 ?oh ?oe); (case oh => with_reducible assumption); (case oe => exact rfl)) | ((with_reducible refine' Mine.o2 ?oh ?oe); (case oh => with_reducible assumption); (case oe => exact rfl)) | ((with_reducible refine' Mine.o3 ?oh ?oe); (case oh => with_reducible assumption); (case oe => exact rfl)) | ((with_reducible refine' Mine.o4 ?oh ?oe); (case oh => with_reducible assumption); (case oe => exact rfl)) | ((with_reducible refine' Mine.o5 ?oh ?oe); (case oh => with_reducible assumption); (case oe => exact rfl)) | ((with_reducible refine' Mine.o6 ?oh ?oe); (case oh => with_reducible assumption); (case oe => exact rfl)) | ((with_reducible refine' Mine.o7 ?oh ?oe); (case oh => with_reducible assumption); (case oe => exact rfl)) | ((with_reducible refine' Mine.p1 ?oh ?oe); (case oh => with_reducible assumption); (case oe => exact rfl)) | ((with_reducible refine' Mine.p4 ?oh ?oe); (case oh => with_reducible assumption); (case oe => exact rfl)) | ((with_reducible refine' Mine.p6 ?oh ?oe); (case oh => with_reducible assumption); (case oe => exact rfl)) | ((with_reducible refine' Mine.r6 ?oh ?oe); (case oh => with_reducible assumption); (case oe => exact rfl)) | ((with_reducible refine' Mine.r13 ?oh ?oe); (case oh => with_reducible assumption); (case oe => exact rfl)) | ((with_reducible refine' Mine.r14 ?oh ?oe); (case oh => with_reducible assumption); (case oe => exact rfl)) | ((with_reducible refine' Mine.r15 ?oh ?oe); (case oh => with_reducible assumption); (case oe => exact rfl)) | ((with_reducible refine' Mine.r18 ?oh ?oe); (case oh => with_reducible assumption); (case oe => exact rfl)) | ((with_reducible refine' Mine.r19 ?oh ?oe); (case oh => with_reducible assumption); (case oe => exact rfl)) | ((with_reducible refine' Mine.r20 ?oh ?oe); (case oh => with_reducible assumption); (case oe => exact rfl)) | ((with_reducible refine' Mine.r21 ?oh ?oe); (case oh => with_reducible assumption); (case oe => exact rfl)) | ((with_reducible refine' Mine.o8 ?og ?oh ?oe); (case og => with_reducible assumption); (case oh => with_reducible assumption); (case oe => exact rfl)) | ((with_reducible refine' Mine.o9 ?og ?oh ?oe); (case og => with_reducible assumption); (case oh => with_reducible assumption); (case oe => exact rfl)) | ((with_reducible refine' Mine.p5 ?og ?oh ?oe); (case og => with_reducible assumption); (case oh => with_reducible assumption); (case oe => exact rfl)) | ((with_reducible refine' Mine.r5 ?og ?oh ?oe); (case og => with_reducible assumption); (case oh => with_reducible assumption); (case oe => exact rfl)) | ((with_reducible refine' Mine.r1 ?og ?oh); (case og => with_reducible assumption); (case oh => with_reducible assumption)) | ((with_reducible refine' Mine.r3 ?og ?oh); (case og => with_reducible assumption); (case oh => with_reducible assumption)) | ((with_reducible refine' Nat.le_trans ?og ?oh); (case og => with_reducible assumption); (case oh => with_reducible assumption)) | ((with_reducible refine' Mine.r22 ?oh); (case oh => with_reducible assumption)) | ((with_reducible refine' Mine.r23 ?oh); (case oh => with_reducible assumption)) | ((with_reducible refine' Mine.big_lo ?oh); (case oh => with_reducible assumption)) | ((with_reducible refine' Mine.big_hi ?oh); (case oh => with_reducible assumption)) | ((with_reducible refine' Mine.big_ten ?oh); (case oh => with_reducible assumption)) | ((with_reducible refine' Int.ne_of_gt ?_); k_extra "ltc") | ((with_reducible refine' Int.le_of_lt ?_); k_extra "ltc") | with_reducible exact Int.le_refl _ | with_reducible exact Nat.le_succ _ | with_reducible exact Nat.zero_add _ | fail "mine")
  k_with "call builtin:sorted" => ((k_here; (refine' sorted_led ?F ?N ?m ?i ?b ?_; (case F => k_asm); (case N => k_asm); (case m => k_mem); (case i => k_asm); (case b => k_asm); k_whole); intro wD' wvs' wc' wh' wF' wN' wl1' wi'; (try k_lt wl1'); (try dsimp only)))
  k_with "TurnG" => (first | ((with_reducible show TurnG _ _ _ _ _ _ _ (Flow.ret _) _); dsimp only [TurnG]) | ((with_reducible show TurnG _ _ _ _ _ _ _ Flow.brk _); dsimp only [TurnG]))
  k_with "exec Assign cons ListComp" => ((k_here; k_dflt (first
  | (refine LCt.Assign_ListComp_T (F₀ := by k_asm) (by rfl) (by with_unfolding_all rfl) (by with_unfolding_all rfl) (by decide) (by rfl) (by decide) (by rfl) (by rfl) (by rfl) ?_)
  | (refine LCg.Assign_ListComp_U (F₀ := by k_asm) (by rfl) (by with_unfolding_all rfl) (by with_unfolding_all rfl) (by decide) (by rfl) (by decide) (by rfl) (by rfl) (by rfl) ?_))))
  k_with "eval ListComp" => ((k_here; k_dflt (first
  | (refine LCt.ListComp_T (F₀ := by k_asm) (by with_unfolding_all rfl) (by decide) (by rfl) (by decide) (by rfl) ?_)
  | (refine LCg.ListComp_U (F₀ := by k_asm) (by with_unfolding_all rfl) (by decide) (by rfl) (by decide) (by rfl) ?_))))
  k_with "CompSrcT" => (fail "mine: by hand")
  k_with "CompSrc" => (fail "mine: by hand")
  k_with "call builtin:len" => ((k_here; k_dflt (refine' len_led ?N ?m ?b ?_; (case N => k_asm); (case m => k_mem); (case b => first | omega | ((simp only [sxs_size, rxs_size, List.size_toArray, List.length_map, Array.size_push]); omega)); k_whole)))
  k_with "compareOp In int ref" => ((k_here; k_dflt (refine' in_led ?N ?m ?i ?_; (case N => k_asm); (case m => k_mem); (case i => k_asm); k_whole)))
  k_with "compareOp NotIn int ref" => ((k_here; k_dflt (refine' notin_led ?N ?m ?i ?_; (case N => k_asm); (case m => k_mem); (case i => k_asm); k_whole)))
  k_with "setItem ref int" => ((k_here; k_dflt (refine' kda_set (knd := PySem.intKind _ _) ?F ?N ?U ?d (intKind_is _ _ _ _) ?z ?_; (case F => k_asm); (case N => k_asm); (case U => k_updF); (case d => k_asm); (case z => k_asm)); intro wh' wo' wF' wN' whd'; (try dsimp only at wN'); (try k_sweep); (try dsimp only)))
  k_with "setItem ref str" => ((k_here; k_dflt (refine' kda_set (knd := PySem.strKind _ _) ?F ?N ?U ?d (strKind_is _ _ _ _) ?z ?_; (case F => k_asm); (case N => k_asm); (case U => k_updF); (case d => k_asm); (case z => rw [sizeLine_eq]; exact Nat.le_of_ble_eq_true (by with_unfolding_all rfl))); intro wh' wo' wF' wN' whd'; (try first | rw [stored_cond] at whd' | rw [stored_ign] at whd' | rw [stored_hits] at whd' | rw [stored_on] at whd' | rw [stored_trb] at whd'); (try dsimp only at whd'); (try dsimp only at wN'); (try k_sweep); (try dsimp only)))
  k_with "subscriptTail Name" => ((k_here; (with_reducible show wpAny _ _ (subscriptTail _ _ (Value.ref _) (Value.str _ _)) _ _ _); k_dflt (refine kda_item (knd := PySem.strKind _ _) (by k_asm) (by k_mem) (by k_asm) (strKind_is _ _ _ _) (by rfl) ?_); (try dsimp only)))
  k_with "getItem ref str" => ((k_here; k_dflt (refine kdt_getItem (knd := PySem.strKind _ _) (by k_asm) (by k_mem) (by k_asm) (strKind_is _ _ _ _) (by rfl) ?_); (try dsimp only)))
  k_with "subscriptTail" => ((k_here; (with_reducible show wpAny _ _ (subscriptTail _ _ (Value.ref _) (Value.int _ _)) _ _ _); k_dflt (first
  | (refine' item_menu menu6 6 ?N ?m ?a ?b ?c (menu6_at _ _ _ _ _ _) ?_ (by with_unfolding_all rfl); (case N => k_asm); (case m => k_mem); (case a => exact fmod_ge _ _ (by decide)); (case b => exact fmod_lt' _ _ (by decide)); (case c => decide); k_whole)
  | (refine' item_menu menu2 2 ?N ?m ?a ?b ?c (menu2_at _ _) ?_ (by with_unfolding_all rfl); (case N => k_asm); (case m => k_mem); (case a => exact fmod_ge _ _ (by decide)); (case b => exact fmod_lt' _ _ (by decide)); (case c => decide); k_whole)
  | (refine' item_menu kindOf 2 ?N ?m ?a ?b ?c (kinds_at _ _) ?_ (by with_unfolding_all rfl); (case N => k_asm); (case m => k_mem); (case a => exact fmod_ge _ _ (by decide)); (case b => exact fmod_lt' _ _ (by decide)); (case c => decide); k_whole)); intro wtz'; (try dsimp only)))
  k_with "subscriptTail Name Name" => ((k_here; (with_reducible show wpAny _ _ (subscriptTail _ _ (Value.ref _) (Value.int _ _)) _ _ _); k_dflt (refine' item_int ?N ?m ?i ?a ?b ?c ?_ (by with_unfolding_all rfl); (case N => k_asm); (case m => k_mem); (case i => k_asm); (case a => omega); (case b => first | omega | (simp only [List.size_toArray] at *; omega)); (case c => omega); k_whole); intro wtz' whz'; (try dsimp only)))
  k_with "eval Name" => ((k_here; k_dflt (refine' ld ?k1 ?k2 ?_; (case k1 => k_asm); (case k2 => assumption); k_whole)))
  k_with "call builtin:list.append" => ((k_here; (with_reducible show wpAny _ _ (call (Value.builtin _) [Value.ref _, _]) _ _ _); k_dflt (refine' append_K ?k1 ?k2 ?k3 ?_ ?z; (case k1 => k_asm); (case k2 => k_asm); (case k3 => k_upd); (case z => first | size_fits | ((rw [sizeLine_eq]; simp only [List.size_toArray]); omega)); k_whole); intro wh' wF' wN'; (try k_sweep)))
  k_with "eval ListComp" => ((refine stopHere ?_))
  k_with "TurnC" => (first | ((with_reducible show TurnC _ _ _ _ _ _ _ _ (Flow.ret _) _); dsimp only [TurnC]) | ((with_reducible show TurnC _ _ _ _ _ _ _ _ Flow.brk _); dsimp only [TurnC]))
  k_with "call ref" => (((with_reducible first | show wpAny _ _ (call (Value.ref 180) _) _ _ _ | show wpAny _ _ (call (Value.ref 114) _) _ _ _ | show wpAny _ _ (call (Value.ref 131) _) _ _ _ | show wpAny _ _ (call (Value.ref 124) _) _ _ _); refine stopHere ?_))
  k_with "compareOp NotEq ref ref" => ((refine stopHere ?_))
  k_with "call builtin:list.append" => ((refine stopHere ?_))
  k_with "eval Name" => ((k_here; k_dflt (first | ((with_reducible first | show wpAny _ _ (eval (Expr.Name (Str.ofString "mark") _) (compEnvC _ _ _ _)) _ _ _ | show wpAny _ _ (eval (Expr.Name (Str.ofString "cell") _) (compEnvC _ _ _ _)) _ _ _ | show wpAny _ _ (eval (Expr.Name (Str.ofString "number") _) (compEnvC _ _ _ _)) _ _ _ | show wpAny _ _ (eval (Expr.Name (Str.ofString "pc") _) (compEnvC _ _ _ _)) _ _ _); refine kcf_cell (by k_asm) (by rfl) (by k_mem) (by k_asm) ?_) | ((with_reducible first | show wpAny _ _ (eval (Expr.Name (Str.ofString "mark") _) (envX _ _ _ _ _ _)) _ _ _ | show wpAny _ _ (eval (Expr.Name (Str.ofString "cell") _) (envX _ _ _ _ _ _)) _ _ _); (refine' nameX_C ?N ?c ?m ?d ?_ ?a ?b; (case a => rfl); (case b => rfl); (case N => k_asm); (case c => rfl); (case m => k_mem); (case d => k_asm); k_whole)) | fail "mine")))
  trivial
set_option maxRecDepth 100000 in
set_option maxHeartbeats 8000000 in
theorem marks_loop {a S D R RR r : Addr} {cd : Value} {k0 k1 : Tok} {last lastv : Int} {tq tl t₀ u₀ v₀ : Tok} {n k kr : Nat} {items : List Itm} {o1 o2 : Obj} {px : Pos} {Q : Flow → Shared → Prop}
    (B : Below (Ar d (env :: outer) gd u) base (env :: outer) h₀) (X : (hd.heap_39 w.params).In h₀) (T : TopM mean mg mb h₀) (F : Fr h₀ L s.heap (frLR L a cd S RR last tl)) (N : News h₀ L s.heap ((L + 1 + 1, o1) :: (L + 1, o2) :: news)) (hd' : d < 880) (hu : u < 8000)
    (ho1 : ∃ v, o1.data = .cell v) (ho2 : ∃ v, o2.data = .cell v) (hz8 : ∀ p ∈ news, p.1 < L)
    (hS : (S, instObj 148 D) ∈ news) (hD : (D, dictOf (stopsEs w.params k0 k1 R lastv tq) n) ∈ news)
    (hR : (R, listOf (sxs items) k) ∈ news) (hRR : (RR, listOf (rxs items) kr) ∈ news) (hall : ∀ i ∈ items, ItmIn w news i) (hlen : items.length < 40) (hl0 : 0 ≤ last) (hl1 : last < 100)
    (hr : IsRange s.heap r 0 (last + 2) 1 t₀ u₀ v₀)
    (hE : PassesOwn (model prg w) ((Ar d (env :: outer) gd u).deeper (envLR L a cd)) (envLR L a cd) E)
    (done : ∀ u1 u2 oc h' tk, Fr h₀ L h' (fun y => if y = Str.ofString "due" then u1 else if y = Str.ofString "seen" then u2 else frLR L a cd S RR last tl y) → News h₀ L h' ((L + 1 + 1, o1) :: (L + 1, oc) :: news) → (∃ v, oc.data = .cell v) → Q .next { s with heap := h', toks := tk }) :
    wpAny (model prg w) ((Ar d (env :: outer) gd u).deeper (envLR L a cd)) (pyIter (.ref r)) (fun it s₂ => codeAny (model prg w) ((Ar d (env :: outer) gd u).deeper (envLR L a cd)) (.forLoop (.Name (Str.ofString "mark") px) it (forBody (defBody 14)[1]?) [] (envLR L a cd))
      (fun r s' => match r with | .ok f => Q f s' | .error e => cameBackBy (model prg w) ((Ar d (env :: outer) gd u).deeper (envLR L a cd)) (envLR L a cd) E e s') s₂) E s := by
  have hN : News h₀ L s.heap ((L + 1, o2) :: (L + 1 + 1, o1) :: news) := newsSub N (by repeat' (first | refine sub_cons ?_ ?_ | exact List.Mem.head _ | exact sub_id | refine List.Mem.tail _ ?_ | refine sub_tail ?_))
  have hne1 : @Ne Nat (L + 1 + 1) (L + 1) := Nat.ne_of_gt (Nat.lt_succ_self _)
  obtain ⟨n9, hn9⟩ : ∃ n9 : Nat, last + 2 = (n9 : Int) := ⟨(last + 2).toNat, (Int.toNat_of_nonneg (Int.add_nonneg hl0 (by decide))).symm⟩
  refine iter_rngC (n := n9) (c := L + 1) (nx₀ := (L + 1 + 1, o1) :: news) (fun i m₁ nx => nx = (L + 1 + 1, o1) :: news ∧ ∃ u1 u2, m₁ = fun y => if y = Str.ofString "due" then u1 else if y = Str.ofString "seen" then u2 else frLR L a cd S RR last tl y)
    rfl hr (rng_small (by omega) (by omega)) (rng_size hn9 (by omega)) F hN ?_ ⟨rfl, _, _, map_self2' _ _ _⟩ ho2 ?_ ?_ (by rfl) rfl rfl hE
  · rintro i m₁ nx ⟨rfl, _⟩ p hp
    rcases List.mem_cons.mp hp with rfl | hp
    · exact hne1
    · exact Nat.ne_of_lt (Nat.lt_succ_of_lt (hz8 p hp))
  · rintro i t m₁ nx h1 tk1 I oI oc hi ⟨rfl, u1, u2, rfl⟩ off hoc F2 N2
    with_unfolding_all show wpAny _ _ (execs (_ :: _) (envX _ (Scope.mk _ _ _ _ _) _ _ _ [(_, _), (_, _)])) _ _ _
    clear F N hN
    have hsb : ∀ p ∈ news, p ∈ (I, oI) :: (L + 1, oc) :: (L + 1 + 1, o1) :: news := fun p hp => List.mem_cons_of_mem _ (List.mem_cons_of_mem _ (List.mem_cons_of_mem _ hp))
    k_steps
    unfold Halt
    refine numbered_spec B F2 X N2 T rfl rfl (Mine.o5 hd' rfl) (hsb _ hS) (hsb _ hD) (hsb _ hR) (fun i hi => (hall i hi).sub hsb) ?_
    intro h2 tk2 F3 N3
    clear F2 N2
    generalize hv0 : foundV (items.find? fun j => decide (j.dat.num = (i : Int))) = v0
    k_steps
    rename Fr h₀ L _ _ => F4
    rename News h₀ L _ _ => N4
    try dsimp only
    refine LCt.CompSrcT.ledger (its := rxs items) rfl F4 N4 (hsb _ hRR) (by rw [rxs_size]; exact sz_lt hlen rfl) ?_
    intro g2
    refine compT_all (fun q => (((items.take q).filter (fun j => decide (j.dat.num = (i : Int)))).map (fun j => Value.ref j.rx))) rfl ?_ ?_
    · intro q v I2 oI2 C oC D' m₂ h1 tk1 E' hq hv hC hx F2 N2 off2 ne
      obtain ⟨it, hit, rfl⟩ := rxs_at hv
      have hin := (hall it (List.mem_of_getElem? hit)).sub hsb
      refine hold fun H9 hH9 => ?_
      obtain ⟨ro, rvt, r1, r2, r3⟩ := hin.d
      refine hH9 ?_
      clear hH9 H9
      clear F4 N4
      k_steps
      · rename it.dat.num = (i : Int) => q1
        exact ⟨_, _, _, rfl, by assumption, by assumption, off2, .inr ⟨_, hsb _ hRR, rfl, _, rfl⟩, rfl, filt_on hit (decide_eq_true q1)⟩
      · rename ¬ it.dat.num = (i : Int) => q1
        exact ⟨_, _, _, rfl, by assumption, by assumption, off2, .inr ⟨_, hsb _ hRR, rfl, _, rfl⟩, rfl, filt_off hit (decide_eq_false q1)⟩
    dsimp only
    intro D2 h5 tk5 F5 N5 o5
    clear F4 N4
    rw [rxs_size, List.take_length] at N5
    generalize hdue : items.filter (fun j => decide (j.dat.num = (i : Int))) = due at N5
    have N6 : News h₀ L h5 ((D2, listOf (rxs due) due.length) :: (I, oI) :: (L + 1, oc) :: (L + 1 + 1, o1) :: news) := lst_rxs due ▸ N5
    clear N5
    cases hfd : items.find? (fun j => decide (j.dat.num = (i : Int))) with
    | none =>
      rw [hfd] at hv0
      dsimp only [foundV] at hv0
      subst hv0
      have hd0 : due = [] := by
        rw [← hdue, List.filter_eq_nil_iff]
        intro j hj; exact (List.find?_eq_none.mp hfd) j hj
      subst hd0
      k_steps
      dsimp only [TurnC]
      rename Fr h₀ L _ _ => F6
      rename News h₀ L _ _ => N7
      rw [map2_again] at F6
      refine ⟨_, _, _, _, _, rfl, F6, newsSub N7 ?_, off, ⟨_, hoc⟩, rfl, _, _, rfl⟩
      repeat' (first | refine sub_cons ?_ ?_ | exact List.Mem.head _ | exact sub_id | refine List.Mem.tail _ ?_ | refine sub_tail ?_)
    | some it0 =>
      rw [hfd] at hv0
      dsimp only [foundV] at hv0
      subst hv0
      obtain ⟨due', rfl⟩ : ∃ due', due = it0 :: due' := by
        have hh := List.head?_filter (p := fun j => decide (j.dat.num = (i : Int))) (l := items)
        rw [hdue, hfd] at hh
        cases due with
        | nil => cases hh
        | cons q due' => cases hh; exact ⟨due', rfl⟩
      have hin0 := (hall it0 (List.mem_of_find?_eq_some hfd))
      k_steps
      rename News h₀ L _ _ => N7
      refine eq_lists_short N7 (l := D2) (items := rxs (it0 :: due')) (by k_mem) List.mem_cons_self (by simp [rxs]) (show u + 3 < 9900 from Mine.o5 hu rfl) ?_
      k_steps
      unfold Halt
      have ha := hin0.a
      refine hold fun H9 hH9 => ?_
      obtain ⟨kt, vt, n', hb⟩ := hin0.b
      obtain ⟨ro, rvt, r1, r2, r3⟩ := hin0.d
      obtain ⟨v1, c1, p1, p2⟩ := hin0.c
      obtain ⟨v2, c2, p3, p4⟩ := hin0.e
      refine hH9 ?_
      clear hH9 H9
      refine told_spec B (by assumption) X N7 T rfl rfl (Mine.o5 hd' rfl) (by k_mem) (by k_mem) ?_
      intro h8 tk8 D8 o8 F8 N8 l8 q8 i8
      clear N7
      k_steps
      unfold Halt
      refine rows_same N8 List.mem_cons_self (by k_mem) i8 r2 q8 r3 (by k_mem) (by k_mem) p2 p4 (by simp only [Around.deeper, cLine]; omega) ?_
      k_steps
      dsimp only [TurnC]
      rename Fr h₀ L _ _ => F6
      dsimp only at F6
      rw [map2_again] at F6
      refine ⟨_, _, _, _, _, rfl, F6, newsSub N8 ?_, off, ⟨_, hoc⟩, rfl, _, _, rfl⟩
      repeat' (first | refine sub_cons ?_ ?_ | exact List.Mem.head _ | exact sub_id | refine List.Mem.tail _ ?_ | refine sub_tail ?_)
  · rintro m₁ nx oc h1 tk1 ⟨rfl, u1, u2, rfl⟩ F2 N2 hv
    exact done u1 u2 oc h1 tk1 F2 (newsSub N2 (by repeat' (first | refine sub_cons ?_ ?_ | exact List.Mem.head _ | exact sub_id | refine List.Mem.tail _ ?_ | refine sub_tail ?_))) hv
-- part C18
/-- the loops' invariants, by name: a lambda would be copied at each depth -/
abbrev JA (CL L : Addr) (o2 : Obj) (news : List (Addr × Obj)) (items : List Itm) (u1 u2 : Option Value) (fr : Str → Option Value) (i : Nat) (m₁ : Str → Option Value) (nx : List (Addr × Obj)) : Prop :=
  ∃ u3 oc vs kc, nx = (CL, listOf (List.toArray vs) kc) :: (L + 1 + 1, oc) :: (L + 1, o2) :: news ∧ (∃ v, oc.data = .cell v) ∧ IntsAre vs (keysOf (items.take i)) ∧ m₁ = fun y => if y = Str.ofString "row" then u3 else if y = Str.ofString "cells" then some (.ref CL) else if y = Str.ofString "due" then u1 else if y = Str.ofString "seen" then u2 else fr y
abbrev JB (CL L I rx : Addr) (oI o2 : Obj) (news : List (Addr × Obj)) (cells ks : List Int) (u1 u2 : Option Value) (fr : Str → Option Value) (q : Nat) (m₁ : Str → Option Value) (nx : List (Addr × Obj)) : Prop :=
  ∃ vs' kc', nx = (CL, listOf (List.toArray vs') kc') :: (I, oI) :: (L + 1, o2) :: news ∧ IntsAre vs' ((cells.take q).foldl addKey ks) ∧ m₁ = fun y => if y = Str.ofString "row" then some (Value.ref rx) else if y = Str.ofString "cells" then some (.ref CL) else if y = Str.ofString "due" then u1 else if y = Str.ofString "seen" then u2 else fr y
set_option maxRecDepth 100000 in
set_option maxHeartbeats 8000000 in
theorem cells_loop {a S RR CL : Addr} {cd : Value} {last : Int} {tl : Tok} {k kr : Nat} {items : List Itm} {o1 o2 : Obj} {Q : Flow → Shared → Prop} {u1 u2 : Option Value}
    (B : Below (Ar d (env :: outer) gd u) base (env :: outer) h₀) (X : (hd.heap_39 w.params).In h₀) (T : TopM mean mg mb h₀) (F : Fr h₀ L s.heap (fun y => if y = Str.ofString "cells" then some (.ref CL) else if y = Str.ofString "due" then u1 else if y = Str.ofString "seen" then u2 else frLR L a cd S RR last tl y)) (N : News h₀ L s.heap ((CL, listOf [].toArray k) :: (L + 1 + 1, o1) :: (L + 1, o2) :: news)) (hd' : d < 880) (hu : u < 8000)
    (ho1 : ∃ v, o1.data = .cell v) (ho2 : ∃ v, o2.data = .cell v) (hz8 : ∀ p ∈ news, p.1 < L) (hCL : ∀ p ∈ (L + 1 + 1, o1) :: (L + 1, o2) :: news, p.1 ≠ CL)
    (hRR : (RR, listOf (rxs items) kr) ∈ news) (hall : ∀ i ∈ items, ItmIn w news i) (hlen : items.length < 40) (hc3 : ∀ i ∈ items, i.cells.length ≤ 3) (h64 : (keysOf items).length < 64)
    (hE : PassesOwn (model prg w) ((Ar d (env :: outer) gd u).deeper (envLR L a cd)) (envLR L a cd) E)
    (done : ∀ u3 oc vs kc h' tk, Fr h₀ L h' (fun y => if y = Str.ofString "row" then u3 else if y = Str.ofString "cells" then some (.ref CL) else if y = Str.ofString "due" then u1 else if y = Str.ofString "seen" then u2 else frLR L a cd S RR last tl y) → News h₀ L h' ((CL, listOf (List.toArray vs) kc) :: (L + 1 + 1, oc) :: (L + 1, o2) :: news) → (∃ v, oc.data = .cell v) → IntsAre vs (keysOf items) → Q .next { s with heap := h', toks := tk }) :
    wpAny (model prg w) ((Ar d (env :: outer) gd u).deeper (envLR L a cd)) (exec (stmtLR 3) (envLR L a cd)) Q E s := by
  with_unfolding_all show wpAny _ _ (exec (Stmt.For _ _ _ _ _) (envX _ (Scope.mk _ _ _ _ _) _ _ _ [(_, _), (_, _)])) _ _ _
  refine For_invV h₀ (by rfl) (by rfl) ?_ (by intro _; rfl) hE
  k_steps
  rename Fr h₀ L _ _ => F1
  rename News h₀ L _ _ => N1
  have hsize : sizeLine = 16777216 := sizeLine_eq
  refine iter_led (JA CL L o2 news items u1 u2 (frLR L a cd S RR last tl))
    rfl (by k_mem : (RR, listOf (rxs items) kr) ∈ (CL, listOf [].toArray k) :: (L + 1 + 1, o1) :: (L + 1, o2) :: news) F1 N1 ?_ ?_ ?_ ?_
  · obtain ⟨u3, hu3⟩ := map_self (fun y => if y = Str.ofString "cells" then some (.ref CL) else if y = Str.ofString "due" then u1 else if y = Str.ofString "seen" then u2 else frLR L a cd S RR last tl y) (Str.ofString "row")
    exact ⟨u3, o1, [], k, rfl, ho1, .nil, hu3⟩
  · rintro i m₁ nx ⟨u3, oc, vs, kc, rfl, _⟩
    k_mem
  · rintro i v m₁ nx h1 tk1 I oI hv ⟨u3, oc, vs, kc, rfl, hoc, hvs, rfl⟩ hoff F2 N2
    obtain ⟨it, hit, rfl⟩ := rxs_at hv
    have hin := hall it (List.mem_of_getElem? hit)
    refine hold fun H9 hH9 => ?_
    obtain ⟨ro, rvt, r1, r2, r3⟩ := hin.d
    obtain ⟨v2, c2, p3, p4⟩ := hin.e
    refine hH9 ?_
    clear hH9 H9
    rw [map_twice] at F2
    clear F1 N1
    refine wpAny_execs_cons ?_
    refine wpAny_For ?_ (by intro _; rfl)
    change Fr h₀ L h1 _ at F2
    change News h₀ L h1 _ at N2
    have hnc : @Ne Nat (L + 1 + 1) (L + 1) := Nat.ne_of_gt (Nat.lt_succ_self _)
    have hcl1 : @Ne Nat (L + 1 + 1) CL := hCL _ List.mem_cons_self
    have hcl2 : @Ne Nat (L + 1) CL := hCL _ (List.mem_cons_of_mem _ List.mem_cons_self)
    have hcl3 : ∀ p ∈ news, p.1 ≠ CL := fun p hp => hCL p (List.mem_cons_of_mem _ (List.mem_cons_of_mem _ hp))
    have hIC : @Ne Nat CL I := hoff _ List.mem_cons_self
    have hI2 : @Ne Nat (L + 1 + 1) I := hoff _ (List.mem_cons_of_mem _ List.mem_cons_self)
    have hI1 : @Ne Nat (L + 1) I := hoff _ (List.mem_cons_of_mem _ (List.mem_cons_of_mem _ List.mem_cons_self))
    have hI3 : ∀ p ∈ news, p.1 ≠ I := fun p hp => hoff p (List.mem_cons_of_mem _ (List.mem_cons_of_mem _ (List.mem_cons_of_mem _ hp)))
    have hz82 : ∀ p ∈ news, p.1 ≠ L + 1 + 1 := fun p hp => Nat.ne_of_lt (Nat.lt_succ_of_lt (Nat.lt_succ_of_lt (hz8 p hp)))
    have hvl0 : vs.length ≤ 3 * items.length := by
      rw [hvs.length]
      exact keysOf_take hc3 i
    k_steps
    · rename it.dat.on = true => hon
      rename Fr h₀ L _ _ => F3
      rename News h₀ L _ _ => N3
      refine iter_ledC (c := L + 1 + 1) (oc := oc) (nx₀ := (CL, listOf (List.toArray vs) kc) :: (I, oI) :: (L + 1, o2) :: news) (k := c2) (its := v2.toArray) (JB CL L I it.rx oI o2 news it.cells (keysOf (items.take i)) u1 u2 (frLR L a cd S RR last tl))
        rfl (by k_mem) ?_ F3 (newsSub N3 ?_) ?_ ?_ ⟨vs, kc, rfl, by simpa using hvs, rfl⟩ hoc ?_ ?_ (by rfl) rfl rfl hE
      · rw [List.size_toArray, p4.length]; exact sz_le (hc3 _ (List.mem_of_getElem? hit)) rfl
      · repeat' (first | refine sub_cons ?_ ?_ | exact List.Mem.head _ | exact sub_id | refine List.Mem.tail _ ?_ | refine sub_tail ?_)
      · rintro q m₁ nx ⟨vs', kc', rfl, _⟩ p hp
        rcases List.mem_cons.mp hp with rfl | hp
        · exact Ne.symm hcl1
        rcases List.mem_cons.mp hp with rfl | hp
        · exact Ne.symm hI2
        rcases List.mem_cons.mp hp with rfl | hp
        · exact Ne.symm hnc
        exact hz82 p hp
      · rintro q m₁ nx ⟨vs', kc', rfl, _⟩
        k_mem
      · rintro q v m₁ nx h4 tk4 I4 oI4 oc4 hv4 ⟨vs', kc', rfl, hvs', rfl⟩ off4 hoc4 F4 N4
        obtain ⟨z, tz, rfl, hz⟩ := ints_at p4 hv4
        have hI4C : @Ne Nat CL I4 := off4 _ (List.mem_cons_of_mem _ List.mem_cons_self)
        clear F3 N3
        k_steps
        · rename z ∈ _ => hzm
          dsimp only [TurnC]
          refine ⟨_, _, _, _, _, rfl, F4, N4, off4, ⟨_, hoc4⟩, vs', kc', rfl, ?_, rfl⟩
          rw [List.take_add_one, hz]
          simp only [Option.toList_some, List.foldl_append, List.foldl_cons, List.foldl_nil]
          rw [addKey, if_pos hzm]
          exact hvs'
        · rename ¬ z ∈ _ => hzm
          have hvl : vs'.length < 1000 := by
            rw [hvs'.length]
            exact Nat.lt_of_le_of_lt (cells_take (keysOf_take hc3 i) (hc3 _ (List.mem_of_getElem? hit))) (Nat.lt_of_le_of_lt (Nat.add_le_add_right (Nat.mul_le_mul_left 3 (Nat.le_of_lt (by assumption : items.length < 40))) 3) (by decide))
          unfold Halt
          refine append_K F4 N4 (by k_upd) ?_ (by rw [List.size_toArray]; exact sz_lt hvl rfl)
          intro h6 F6 N6
          k_steps
          dsimp only [TurnC]
          rw [List.push_toArray] at N6
          refine ⟨_, _, _, _, _, rfl, F6, N6, by simpa using off4, ⟨_, hoc4⟩, _, _, rfl, ?_, rfl⟩
          rw [List.take_add_one, hz]
          simp only [Option.toList_some, List.foldl_append, List.foldl_cons, List.foldl_nil]
          rw [addKey, if_neg hzm]
          exact hvs'.append (.cons _ _ .nil)
      · rintro m₁ nx oc5 h5 tk5 ⟨vs', kc', rfl, hvs', rfl⟩ F5 N5 hv5
        rw [List.size_toArray, p4.length, List.take_length] at hvs'
        dsimp only
        clear F3 N3
        k_steps
        refine ⟨_, _, _, _, rfl, F5, newsSub N5 ?_, ?_, _, oc5, vs', kc', rfl, hv5, by rw [keysOf_succ_on hit hon]; exact hvs', rfl⟩
        · repeat' (first | refine sub_cons ?_ ?_ | exact List.Mem.head _ | exact sub_id | refine List.Mem.tail _ ?_ | refine sub_tail ?_)
        · intro p hp
          rcases List.mem_cons.mp hp with rfl | hp
          · exact hIC
          rcases List.mem_cons.mp hp with rfl | hp
          · exact hI2
          rcases List.mem_cons.mp hp with rfl | hp
          · exact hI1
          exact hI3 p hp
    · rename it.dat.on = false => hoff2
      rename Fr h₀ L _ _ => F3
      rename News h₀ L _ _ => N3
      rename Addr => LE
      rename @LT.lt Nat _ I LE ∧ _ => l1x
      refine iter_ledC (c := L + 1 + 1) (oc := oc) (nx₀ := (LE, listOf #[] 0) :: (CL, listOf (List.toArray vs) kc) :: (I, oI) :: (L + 1, o2) :: news) (k := 0) (its := #[]) (fun q m₁ nx => nx = (LE, listOf #[] 0) :: (CL, listOf (List.toArray vs) kc) :: (I, oI) :: (L + 1, o2) :: news ∧ m₁ = fun y => if y = Str.ofString "row" then some (Value.ref it.rx) else if y = Str.ofString "cells" then some (.ref CL) else if y = Str.ofString "due" then u1 else if y = Str.ofString "seen" then u2 else frLR L a cd S RR last tl y)
        rfl List.mem_cons_self ?_ F3 (newsSub N3 ?_) ?_ ?_ ⟨rfl, rfl⟩ hoc ?_ ?_ (by rfl) rfl rfl hE
      · simp
      · repeat' (first | refine sub_cons ?_ ?_ | exact List.Mem.head _ | exact sub_id | refine List.Mem.tail _ ?_ | refine sub_tail ?_)
      · rintro q m₁ nx ⟨rfl, _⟩ p hp
        rcases List.mem_cons.mp hp with rfl | hp
        · exact Nat.ne_of_gt l1x.2.2.1
        rcases List.mem_cons.mp hp with rfl | hp
        · exact Ne.symm hcl1
        rcases List.mem_cons.mp hp with rfl | hp
        · exact Ne.symm hI2
        rcases List.mem_cons.mp hp with rfl | hp
        · exact Ne.symm hnc
        exact hz82 p hp
      · rintro q m₁ nx ⟨rfl, _⟩
        exact List.mem_cons_self
      · rintro q v m₁ nx h4 tk4 I4 oI4 oc4 hv4
        simp at hv4
      · rintro m₁ nx oc5 h5 tk5 ⟨rfl, rfl⟩ F5 N5 hv5
        dsimp only
        clear F3 N3
        k_steps
        refine ⟨_, _, _, _, rfl, F5, newsSub N5 ?_, ?_, _, oc5, vs, kc, rfl, hv5, by rw [keysOf_succ_off hit hoff2]; exact hvs, rfl⟩
        · repeat' (first | refine sub_cons ?_ ?_ | exact List.Mem.head _ | exact sub_id | refine List.Mem.tail _ ?_ | refine sub_tail ?_)
        · intro p hp
          rcases List.mem_cons.mp hp with rfl | hp
          · exact hIC
          rcases List.mem_cons.mp hp with rfl | hp
          · exact hI2
          rcases List.mem_cons.mp hp with rfl | hp
          · exact hI1
          exact hI3 p hp
  · rintro m₁ nx h1 tk1 ⟨u3, oc, vs, kc, rfl, hoc, hvs, rfl⟩ F2 N2
    rw [rxs_size, List.take_length] at hvs
    exact done u3 oc vs kc h1 tk1 F2 N2 hoc hvs
-- part C19
set_option maxRecDepth 100000 in
set_option maxHeartbeats 8000000 in
theorem cell8_loop {a S D R RR r : Addr} {cd : Value} {k0 k1 : Tok} {last lastv : Int} {tq tl t₀ u₀ v₀ : Tok} {n k kr : Nat} {items : List Itm} {o1 o2 : Obj} {px : Pos} {Q : Flow → Shared → Prop}
    (B : Below (Ar d (env :: outer) gd u) base (env :: outer) h₀) (X : (hd.heap_39 w.params).In h₀) (T : TopM mean mg mb h₀) {u1 u2 u3 u4 : Option Value} (F : Fr h₀ L s.heap (fun y => if y = Str.ofString "row" then u3 else if y = Str.ofString "cells" then u4 else if y = Str.ofString "due" then u1 else if y = Str.ofString "seen" then u2 else frLR L a cd S RR last tl y)) (N : News h₀ L s.heap ((L + 1 + 1, o1) :: (L + 1, o2) :: news)) (hd' : d < 880) (hu : u < 8000)
    (ho1 : ∃ v, o1.data = .cell v) (ho2 : ∃ v, o2.data = .cell v) (hz8 : ∀ p ∈ news, p.1 < L)
    (hS : (S, instObj 148 D) ∈ news) (hD : (D, dictOf (stopsEs w.params k0 k1 R lastv tq) n) ∈ news)
    (hR : (R, listOf (sxs items) k) ∈ news) (hRR : (RR, listOf (rxs items) kr) ∈ news) (hall : ∀ i ∈ items, ItmIn w news i) (hlen : items.length < 40)
    (hr : IsRange s.heap r 0 8 1 t₀ u₀ v₀)
    (hE : PassesOwn (model prg w) ((Ar d (env :: outer) gd u).deeper (envLR L a cd)) (envLR L a cd) E)
    (done : ∀ m' oc h' tk, Fr h₀ L h' m' → News h₀ L h' ((L + 1 + 1, oc) :: (L + 1, o2) :: news) → Q .next { s with heap := h', toks := tk }) :
    wpAny (model prg w) ((Ar d (env :: outer) gd u).deeper (envLR L a cd)) (pyIter (.ref r)) (fun it s₂ => codeAny (model prg w) ((Ar d (env :: outer) gd u).deeper (envLR L a cd)) (.forLoop (.Name (Str.ofString "cell") px) it (forBody (defBody 14)[5]?) [] (envLR L a cd))
      (fun r s' => match r with | .ok f => Q f s' | .error e => cameBackBy (model prg w) ((Ar d (env :: outer) gd u).deeper (envLR L a cd)) (envLR L a cd) E e s') s₂) E s := by
  have hne1 : @Ne Nat (L + 1) (L + 1 + 1) := Nat.ne_of_lt (Nat.lt_succ_self _)
  refine iter_rngC (n := 8) (c := L + 1 + 1) (nx₀ := (L + 1, o2) :: news) (fun i m₁ nx => nx = (L + 1, o2) :: news ∧ ∃ u9, m₁ = fun y => if y = Str.ofString "due" then u9 else if y = Str.ofString "row" then u3 else if y = Str.ofString "cells" then u4 else if y = Str.ofString "due" then u1 else if y = Str.ofString "seen" then u2 else frLR L a cd S RR last tl y)
    rfl hr (rng_small (by omega) (by omega)) (rng_size rfl (by omega)) F N ?_ ⟨rfl, u1, ?_⟩ ho1 ?_ ?_ (by rfl) rfl rfl hE
  · rintro i m₁ nx ⟨rfl, _⟩ p hp
    rcases List.mem_cons.mp hp with rfl | hp
    · exact hne1
    · exact Nat.ne_of_lt (Nat.lt_succ_of_lt (Nat.lt_succ_of_lt (hz8 p hp)))
  · funext y
    by_cases h : y = Str.ofString "due"
    · subst h; rw [if_pos rfl, if_neg (by decide), if_neg (by decide), if_pos rfl]
    · simp [h]
  · rintro i t m₁ nx h1 tk1 I oI oc hi ⟨rfl, u9, rfl⟩ off hoc F2 N2
    with_unfolding_all show wpAny _ _ (execs (_ :: _) (envX _ (Scope.mk _ _ _ _ _) _ _ _ [(_, _), (_, _)])) _ _ _
    have hsb : ∀ p ∈ news, p ∈ (I, oI) :: (L + 1 + 1, oc) :: (L + 1, o2) :: news := fun p hp => List.mem_cons_of_mem _ (List.mem_cons_of_mem _ (List.mem_cons_of_mem _ hp))
    clear F N
    all_goals try k_fold
    k_steps
    refine LCt.CompSrcT.ledger (its := rxs items) rfl F2 N2 (hsb _ hRR) (by rw [rxs_size]; exact sz_lt hlen rfl) ?_
    intro g2
    refine compT_inv (fun q ys nx => nx = (I, oI) :: (L + 1 + 1, oc) :: (L + 1, o2) :: news ∧ IntsAre ys (((items.take q).filter (fun j => j.dat.on && decide ((i : Int) ∈ j.cells))).map (fun j => j.dat.num))) ⟨rfl, by simpa using .nil⟩ ?_ ?_
    · rintro q ys nx v I2 oI2 C oC D' m₂ h1 tk1 E' hq ⟨rfl, hys⟩ hv hC hx F2 N2 off2 ne
      obtain ⟨it, hit, rfl⟩ := rxs_at hv
      have hin := (hall it (List.mem_of_getElem? hit)).sub hsb
      refine hold fun H9 hH9 => ?_
      obtain ⟨ro, rvt, r1, r2, r3⟩ := hin.d
      obtain ⟨v2, c2, p3, p4⟩ := hin.e
      refine hH9 ?_
      clear hH9 H9
      all_goals try k_fold
      k_steps
      · rename it.dat.on = true => q1
        rename (i : Int) ∈ it.cells => q2
        refine ⟨_, _, _, rfl, by assumption, by assumption, off2, .inr ⟨_, hsb _ hRR, rfl, _, rfl⟩, rfl, ?_⟩
        rw [List.take_add_one, hit]
        simp only [Option.toList_some, List.filter_append, List.map_append]
        rw [show List.filter (fun j : Itm => j.dat.on && decide ((i : Int) ∈ j.cells)) [it] = [it] from by simp [q1, q2]]
        exact hys.append (.cons _ _ .nil)
      · rename it.dat.on = true => q1
        rename ¬ (i : Int) ∈ it.cells => q2
        refine ⟨_, _, _, rfl, by assumption, by assumption, off2, .inr ⟨_, hsb _ hRR, rfl, _, rfl⟩, rfl, ?_⟩
        rw [List.take_add_one, hit]
        simp only [Option.toList_some, List.filter_append, List.map_append]
        rw [show List.filter (fun j : Itm => j.dat.on && decide ((i : Int) ∈ j.cells)) [it] = [] from by simp [q1, q2]]
        simpa using hys
      · rename it.dat.on = false => q1
        refine ⟨_, _, _, rfl, by assumption, by assumption, off2, .inr ⟨_, hsb _ hRR, rfl, _, rfl⟩, rfl, ?_⟩
        rw [List.take_add_one, hit]
        simp only [Option.toList_some, List.filter_append, List.map_append]
        rw [show List.filter (fun j : Itm => j.dat.on && decide ((i : Int) ∈ j.cells)) [it] = [] from by simp [q1]]
        simpa using hys
    · rintro ys nx ⟨rfl, hys⟩
      rw [rxs_size, List.take_length] at hys
      intro D2 h5 tk5 F5 N5 o5
      clear F2 N2
      have hsb5 : ∀ p ∈ news, p ∈ (D2, LCg.lst ys) :: (I, oI) :: (L + 1 + 1, oc) :: (L + 1, o2) :: news := fun p hp => List.mem_cons_of_mem _ (hsb p hp)
      all_goals try k_fold
      k_steps
      unfold Halt
      refine LCg.ListComp_U F5 (by with_unfolding_all rfl) (by decide) (by rfl) (by decide) (by rfl) ?_
      all_goals try k_fold
      k_steps
      unfold Halt
      refine at_spec B F5 X N5 T rfl rfl (Mine.o5 hd' rfl) (hsb5 _ hS) (hsb5 _ hD) (hsb5 _ hR) (fun j hj => (hall j hj).sub hsb5) (by omega) ?_
      intro h6 tk6 D3 c3 F6 N6 l6
      clear F5 N5
      generalize hfl : items.filter (fun j => j.dat.on && decide ((i : Int) ∈ j.cells)) = fl at hys N6
      have hfm : ∀ j ∈ fl, ItmIn w news j := fun j hj => hall j (by rw [← hfl] at hj; exact (List.mem_filter.mp hj).1)
      have hfn : fl.length < 40 := by rw [← hfl]; exact Nat.lt_of_le_of_lt (List.length_filter_le _ _) hlen
      have hsb6 : ∀ p ∈ news, p ∈ (D3, listOf (sxs fl) c3) :: (D2, LCg.lst ys) :: (I, oI) :: (L + 1 + 1, oc) :: (L + 1, o2) :: news := fun p hp => List.mem_cons_of_mem _ (hsb5 p hp)
      refine LCg.CompSrc.ledger (its := sxs fl) rfl F6 N6 List.mem_cons_self (by rw [sxs_size, sizeLine_eq]; omega) ?_
      intro g3
      refine compU_inv (fun q zs nx => nx = (D3, listOf (sxs fl) c3) :: (D2, LCg.lst ys) :: (I, oI) :: (L + 1 + 1, oc) :: (L + 1, o2) :: news ∧ IntsAre zs ((fl.take q).map (fun j => j.dat.num))) ⟨rfl, by simpa using .nil⟩ ?_ ?_
      · rintro q zs nx v I2 oI2 C oC D' m₂ h1 tk1 E' hq ⟨rfl, hzs⟩ hv hC hx F2 N2 off2 ne
        obtain ⟨it, hit, rfl⟩ := sxs_at hv
        have hin := (hfm it (List.mem_of_getElem? hit)).sub hsb6
        have ha := hin.a
        refine hold fun H9 hH9 => ?_
        obtain ⟨kt, vt, n', hb⟩ := hin.b
        refine hH9 ?_
        clear hH9 H9
        clear F6 N6
        all_goals try k_fold
        k_steps
        refine ⟨_, _, _, rfl, F2, N2, off2, .inr ⟨_, List.mem_cons_self, rfl, _, rfl⟩, rfl, ?_⟩
        rw [List.take_add_one, hit]
        simp only [Option.toList_some, List.map_append]
        exact hzs.append (.cons _ _ .nil)
      · rintro zs nx ⟨rfl, hzs⟩
        rw [sxs_size, List.take_length] at hzs
        intro D4 h7 tk7 F7 N7 o7
        clear F6 N6
        all_goals try k_fold
        k_steps
        unfold Halt
        refine ke_ne_ints (xs := zs) (ys := ys) ⟨_, (N7 _ List.mem_cons_self).1, rfl, _, rfl⟩ ⟨_, (N7 _ (List.mem_cons_of_mem _ (List.mem_cons_of_mem _ List.mem_cons_self))).1, rfl, _, rfl⟩ hzs hys (by simp only [Around.deeper, cLine]; omega) ?_
        rw [decide_eq_true rfl]
        all_goals try k_fold
        k_steps
        dsimp only [TurnC]
        rw [map_twice] at F7
        refine ⟨_, _, _, _, _, rfl, F7, newsSub N7 ?_, off, ⟨_, hoc⟩, rfl, _, rfl⟩
        repeat' (first | refine sub_cons ?_ ?_ | exact List.Mem.head _ | exact sub_id | refine List.Mem.tail _ ?_ | refine sub_tail ?_)
  · rintro m₁ nx oc h1 tk1 ⟨rfl, u9, rfl⟩ F2 N2 hv
    exact done _ oc h1 tk1 F2 N2
-- part C16
/-- what has been told of the first i items, in this order -/
def ToldUp (w : World) (items : List Itm) (bs : List (Addr × Obj)) (i : Nat) (ys : List Value) (nx : List (Addr × Obj)) : Prop :=
  (∀ p ∈ bs, p ∈ nx) ∧ ys.length = i ∧ ∀ j it, items[j]? = some it → j < i → ∃ a o vt, ys[j]? = some (.ref a) ∧ (a, o) ∈ nx ∧ o.IsDictOf (strKind prg w) (rowKvs it.dat it.sp vt) ∧ (a == sysModules) = false ∧ ∀ p ∈ bs, p.1 ≠ a
set_option maxRecDepth 100000 in
set_option maxHeartbeats 8000000 in
theorem looks_spec {S D R RR : Addr} {k0 k1 : Tok} {last lastv : Int} {tq tl : Tok} {n k kr : Nat} {items : List Itm}
    (B : Below A₀ base outer h₀) (F : Fr h₀ L s.heap m) (X : (hd.heap_39 w.params).In h₀) (N : News h₀ L s.heap news) (T : TopM mean mg mb h₀) (hf : env.frame = some L) (hk : env.scope.kind = .function) (hd : d < 880) (hu : u < 8000)
    (hS : (S, instObj 148 D) ∈ news) (hD : (D, dictOf (stopsEs w.params k0 k1 R lastv tq) n) ∈ news)
    (hR : (R, listOf (sxs items) k) ∈ news) (hRR : (RR, listOf (rxs items) kr) ∈ news) (hall : ∀ i ∈ items, ItmIn w news i) (hlen : items.length < 40) (hc3 : ∀ i ∈ items, i.cells.length ≤ 3) (h64 : (keysOf items).length < 64) (hl0 : 0 ≤ last) (hl1 : last < 100)
    (hnum : ∀ i ∈ items, 0 ≤ i.dat.num ∧ i.dat.num < 100)
    (h : ∀ h' tk, Fr h₀ L h' m → News h₀ L h' news → Q (.bool true) { s with heap := h', toks := tk }) :
    wpAny (model prg w) (Ar d (env :: outer) gd u) (call (.ref 199) [.ref S, .ref RR, .int last tl] []) Q E s := by
  refine wpAny_call ?_
  refine code_defC (binds := [(Str.ofString "stops", .ref S), (Str.ofString "rows", .ref RR), (Str.ofString "last", .int last tl)]) B F X N T rfl hf hk (by k_is) (by k_is) (by k_room) (BindsTo.of_eq rfl) rfl (by decide +kernel) ?_ rfl rfl rfl
  intro g' L' h' tk' cells' FG' F' N' Y' B' X' T' l1
  have hzL : ∀ p ∈ news, p.1 < L' := l1
  k_lt l1
  k_cells Y'
  try simp only [List.cons_append, List.nil_append] at N'
  dsimp only
  all_goals try k_fold
  k_steps
  unfold Halt
  rename_i o'0 o2'0 dc1 dc2
  refine LCg.ListComp_U F' (by with_unfolding_all rfl) (by decide) (by rfl) (by decide) (by rfl) ?_
  all_goals try k_fold
  k_steps
  rename News g' L' _ _ => N1
  have hR1 : (R, listOf (sxs items) k) ∈ (L' + 1 + 1, o'0) :: (L' + 1, o2'0) :: news := by k_mem
  refine LCg.CompSrc.ledger (its := sxs items) rfl F' N1 hR1 (by rw [sxs_size, sizeLine_eq]; omega) ?_
  intro g2
  refine compU_inv (ToldUp w items ((L' + 1 + 1, o'0) :: (L' + 1, o2'0) :: news)) ⟨fun _ h => h, rfl, fun j _ _ hj => absurd hj (Nat.not_lt_zero _)⟩ ?_ ?_
  · intro i ys nx v I oI C oC D' m₂ h1 tk1 E' hi hj hv hC hx F2 N2 off ne
    refine hold fun H9 hH9 => ?_
    obtain ⟨hsub, hyl, htold⟩ := hj
    refine hH9 ?_
    clear hH9 H9
    obtain ⟨it, hit, rfl⟩ := sxs_at hv
    have hin := (hall it (List.mem_of_getElem? hit)).sub fun p hp => hsub p (List.mem_cons_of_mem _ (List.mem_cons_of_mem _ hp))
    have ha := hin.a
    refine hold fun H9 hH9 => ?_
    obtain ⟨kt, vt, n', hb⟩ := hin.b
    refine hH9 ?_
    clear hH9 H9
    clear N1 F'
    all_goals try k_fold
    k_steps
    unfold Halt
    refine told_spec B' F2 X' N2 T' rfl rfl (by show d + 1 < 900; omega) (by k_mem) (by k_mem) ?_
    intro h3 tk3 D3 o3 F3 N3 l3 q3 i3
    all_goals try k_fold
    k_steps
    have hl3 : ∀ p ∈ nx, p.1 < D3 := fun p hp => l3 p (List.mem_cons_of_mem _ (List.mem_cons_of_mem _ (List.mem_cons_of_mem _ hp)))
    refine ⟨_, _, (D3, o3) :: nx, rfl, F3, newsSub N3 ?_, ?_, .inr ⟨_, List.mem_cons_of_mem _ (hsub _ hR1), rfl, _, rfl⟩, fun p hp => List.mem_cons_of_mem _ (hsub p hp), by simp [hyl], ?_⟩
    · repeat' (first | refine sub_cons ?_ ?_ | exact List.Mem.head _ | exact sub_id | refine List.Mem.tail _ ?_ | refine sub_tail ?_)
    · exact ⟨⟨Nat.ne_of_gt (l3 _ List.mem_cons_self), Nat.ne_of_gt (l3 _ (List.mem_cons_of_mem _ List.mem_cons_self)), Nat.ne_of_gt (l3 _ (List.mem_cons_of_mem _ (List.mem_cons_of_mem _ List.mem_cons_self)))⟩, off⟩
    · intro j it' hj hjl
      rcases Nat.lt_or_ge j i with hji | hji
      · obtain ⟨a, o, vt', e1, e2, e3, e4, e5⟩ := htold j it' hj hji
        exact ⟨a, o, vt', by rw [List.getElem?_append_left (by rw [hyl]; exact hji)]; exact e1, List.mem_cons_of_mem _ e2, e3, e4, e5⟩
      · have hje : j = i := Nat.le_antisymm (Nat.le_of_lt_succ hjl) hji
        subst hje
        rw [hit] at hj
        cases hj
        exact ⟨D3, o3, _, by rw [List.getElem?_append_right (Nat.le_of_eq hyl)]; simp [hyl], List.mem_cons_self, i3, q3, fun p hp => Nat.ne_of_lt (hl3 p (hsub p hp))⟩
  · intro ys nx hj
    refine hold fun H9 hH9 => ?_
    obtain ⟨hsub, hyl, htold⟩ := hj
    refine hH9 ?_
    clear hH9 H9
    dsimp only
    intro D1 h2 tk2 F3 N3 o1
    have hD1 : (D1, listOf ys.toArray ys.length) ∈ (D1, LCg.lst ys) :: nx := List.mem_cons_self
    have hsub1 : ∀ p ∈ (L' + 1 + 1, o'0) :: (L' + 1, o2'0) :: news, p ∈ (D1, LCg.lst ys) :: nx := fun p hp => List.mem_cons_of_mem _ (hsub p hp)
    clear N1 F'
    all_goals try k_fold
    k_steps
    unfold Halt
    refine ne_lists_led N3 hD1 (hsub1 _ (by k_mem : (RR, listOf (rxs items) kr) ∈ _)) (by rw [rxs_size, List.size_toArray]; simpa [sxs_size] using hyl) (by simp only [Around.deeper, cLine]; omega) ?_ ?_
    · intro j hj1 hj2
      rw [rxs_size] at hj2
      refine hold fun H9 hH9 => ?_
      obtain ⟨it, hit⟩ : ∃ it, items[j]? = some it := ⟨_, List.getElem?_eq_getElem hj2⟩
      obtain ⟨a, o, vt, e1, e2, e3, e4, e5⟩ := htold j it hit (by rw [sxs_size]; exact hj2)
      have hin := (hall it (List.mem_of_getElem? hit)).sub fun p hp => hsub1 p (List.mem_cons_of_mem _ (List.mem_cons_of_mem _ hp))
      obtain ⟨ro, rvt, r1, r2, r3⟩ := hin.d
      obtain ⟨v1, c1, p1, p2⟩ := hin.c
      obtain ⟨v2, c2, p3, p4⟩ := hin.e
      refine hH9 ?_
      clear hH9 H9
      have g1 : ys.toArray[j] = .ref a := by
        have := List.getElem?_eq_some_iff.mp e1
        obtain ⟨_, z⟩ := this
        simpa using z
      have g2' : (rxs items)[j]'(by rw [rxs_size]; exact hj2) = .ref it.rx := by
        obtain ⟨_, z⟩ := List.getElem?_eq_some_iff.mp hit
        simp [rxs, z]
      rw [g1, g2']
      have hne : a ≠ it.rx := by
        refine hold fun H9 hH9 => ?_
        obtain ⟨o9, _, q9, _⟩ := (hall it (List.mem_of_getElem? hit)).d
        refine hH9 ?_
        clear hH9 H9
        exact Ne.symm (e5 _ (List.mem_cons_of_mem _ (List.mem_cons_of_mem _ q9)))
      exact rows_eqW hne N3 (List.mem_cons_of_mem _ e2) r1 e3 r2 e4 r3 p1 p3 p2 p4 (by simp only [Around.in1, Around.deeper, cLine]; omega)
    replace N3 := newsSub N3 hsub1
    clear hD1 hsub1 htold hyl hsub
    all_goals try k_fold
    k_steps
    have dcm : ∃ v, o2'0.data = .cell v := ⟨_, dc2⟩
    have dcc : ∃ v, o'0.data = .cell v := ⟨_, dc1⟩
    refine wpAny_For ?_ (by intro _; rfl)
    all_goals try k_fold
    k_steps
    rename IsRange _ _ _ _ _ _ _ _ => hr1
    rename Fr g' L' _ _ => F4
    rename News g' L' _ _ => N4
    refine marks_loop (a := 199) (cd := .ref 198) B' X' T' F4 N4 hd hu dcc dcm hzL hS hD hR hRR hall hlen hl0 hl1 hr1 (by passes_own) ?_
    intro u1 u2 oc5 h5 tk5 F5 N5 hoc5
    clear F4 N4 hr1
    try dsimp only
    all_goals try k_fold
    k_steps
    rename Fr g' L' _ _ => F6
    rename News g' L' _ _ => N6
    rename @LT.lt Nat _ (L' + 1 + 1) _ ∧ _ => lx
    refine cells_loop (a := 199) (cd := .ref 198) B' X' T' F6 N6 hd hu dcc hoc5 hzL (fun p hp => by
      rcases List.mem_cons.mp hp with rfl | hp
      · exact Nat.ne_of_lt lx.1
      rcases List.mem_cons.mp hp with rfl | hp
      · exact Nat.ne_of_lt lx.2.1
      exact AllLt.ne lx.2.2 p hp) hRR hall hlen hc3 h64 (by passes_own) ?_
    intro u3 oc7 vs7 kc7 h7 tk7 F7 N7 hoc7 hvs7
    clear F6 N6
    try dsimp only
    all_goals try k_fold
    k_steps
    unfold Halt
    refine places_spec B' F7 X' N7 T' rfl rfl (by show d + 1 < 900; omega) (by k_mem) (by k_mem) (by k_mem) (fun j hj => (hall j hj).sub fun p hp => List.mem_cons_of_mem _ (List.mem_cons_of_mem _ (List.mem_cons_of_mem _ hp))) (by omega) hc3 h64 ?_
    intro h8 tk8 D8 vs8 c8 F8 N8 l8 hvs8
    clear F7 N7
    all_goals try k_fold
    k_steps
    unfold Halt
    rename List.Pairwise _ _ => hso
    rename List.Perm _ (keysOf items) => hpe
    have hsr := srt_uniq hpe hso
    subst hsr
    rename IntsAre _ (srt (keysOf items)) => hvs9
    rename Fr g' L' _ _ => F9
    rename News g' L' _ _ => N9
    refine ke_ne_ints ⟨_, (N9 _ (List.mem_cons_of_mem _ List.mem_cons_self)).1, rfl, _, rfl⟩ ⟨_, (N9 _ List.mem_cons_self).1, rfl, _, rfl⟩ hvs8 hvs9 (by simp only [Around.deeper, cLine]; omega) ?_
    rw [decide_eq_true rfl]
    replace N9 : News g' L' _ ((L' + 1 + 1, oc7) :: (L' + 1, oc5) :: news) := newsTail (newsTail (newsTail N9))
    all_goals try k_fold
    k_steps
    refine wpAny_For ?_ (by intro _; rfl)
    all_goals try k_fold
    k_steps
    rename IsRange _ _ _ _ _ _ _ _ => hr3
    rename Fr g' L' _ _ => F11
    rename News g' L' _ _ => N11
    refine cell8_loop (a := 199) (cd := .ref 198) B' X' T' F11 N11 hd hu hoc7 hoc5 hzL hS hD hR hRR hall hlen hr3 (by passes_own) ?_
    intro m12 oc12 h12 tk12 F12 N12
    clear F11 N11 hr3
    all_goals try k_fold
    k_steps
    rename Fr h₀ L _ _ => F13
    rename News h₀ L _ _ => N13
    exact h _ _ F13 (newsTail (newsTail N13))
-- part C20
theorem words_C20 : True := by
  k_with_none
  k_with "spliced" => (refine args_nil ?_; (try dsimp only [List.cons_append, List.nil_append]))
  k_with "mem" => ((refine memL ?_); with_reducible assumption)
  k_with "all" => (first | with_reducible assumption | exact Mine.neAll (by with_reducible assumption) | fail "mine")
  k_with "put" => (first | exact put_last | exact put_rows | exact put_cond | exact put_ign | exact put_hits | exact put_on | exact put_trb | fail "mine")
  k_with "room" => (first | exact Mine.rm 0 (by exact rfl) (by with_reducible assumption) (by exact rfl) | exact Mine.rm 1 (by exact rfl) (by with_reducible assumption) (by exact rfl) | exact Mine.rm 2 (by exact rfl) (by with_reducible assumption) (by exact rfl) | exact Mine.rm 3 (by exact rfl) (by with_reducible assumption) (by exact rfl) | exact Mine.rm 4 (by exact rfl) (by with_reducible assumption) (by exact rfl) | (simp only [depth_under_make, depth_under_kw, depth_in1, depth_deeper, recursionLimit]; omega))
  k_with "size" => (first | with_reducible assumption | with_reducible exact Mine.sz0 | with_reducible exact Mine.sz1 | with_reducible exact Mine.sz2 | with_reducible exact Mine.sz3 | with_reducible exact Mine.sz4 | with_reducible exact Mine.sz5 | with_reducible exact Mine.sz6 | exact Mine.sz_lt (by with_reducible assumption) (by exact rfl) | exact Mine.sz_le (by with_reducible assumption) (by exact rfl) | fail "mine")
  k_with "lt" => ((rename AllLt _ _ => hlt9); (try dsimp only [AllLt] at hlt9); (try simp only [and_true] at hlt9); (try first | (have hz8 := AllLt.lt (hlt9)) | (have hz8 := AllLt.lt (hlt9).2) | (have hz8 := AllLt.lt (hlt9).2.2) | (have hz8 := AllLt.lt (hlt9).2.2.2) | (have hz8 := AllLt.lt (hlt9).2.2.2.2) | (have hz8 := AllLt.lt (hlt9).2.2.2.2.2) | (have hz8 := AllLt.lt (hlt9).2.2.2.2.2.2) | (have hz8 := AllLt.lt (hlt9).2.2.2.2.2.2.2) | (have hz8 := AllLt.lt (hlt9).2.2.2.2.2.2.2.2) | (have hz8 := AllLt.lt (hlt9).2.2.2.2.2.2.2.2.2) | (have hz8 := AllLt.lt (hlt9).2.2.2.2.2.2.2.2.2.2) | (have hz8 := AllLt.lt (hlt9).2.2.2.2.2.2.2.2.2.2.2) | (have hz8 := AllLt.lt (hlt9).2.2.2.2.2.2.2.2.2.2.2.2)))
  k_with "ltc" => (first | with_reducible assumption | exact And.left (by with_reducible assumption) | exact And.left (And.right (by with_reducible assumption)) | exact And.left (And.right (And.right (by with_reducible assumption))) | exact And.left (And.right (And.right (And.right (by with_reducible assumption)))) | exact And.left (And.right (And.right (And.right (And.right (by with_reducible assumption))))) | exact And.left (And.right (And.right (And.right (And.right (And.right (by with_reducible assumption)))))) | exact And.left (And.right (And.right (And.right (And.right (And.right (And.right (by with_reducible assumption))))))) | exact And.left (And.right (And.right (And.right (And.right (And.right (And.right (And.right (by with_reducible assumption)))))))) | exact And.left (And.right (And.right (And.right (And.right (And.right (And.right (And.right (And.right (by with_reducible assumption))))))))) | exact And.left (And.right (And.right (And.right (And.right (And.right (And.right (And.right (And.right (And.right (by with_reducible assumption)))))))))) | exact And.right (by with_reducible assumption) | exact And.right (And.right (by with_reducible assumption)) | exact And.right (And.right (And.right (by with_reducible assumption))) | exact And.right (And.right (And.right (And.right (by with_reducible assumption)))) | exact And.right (And.right (And.right (And.right (And.right (by with_reducible assumption))))) | exact And.right (And.right (And.right (And.right (And.right (And.right (by with_reducible assumption)))))) | exact And.right (And.right (And.right (And.right (And.right (And.right (And.right (by with_reducible assumption))))))) | exact And.right (And.right (And.right (And.right (And.right (And.right (And.right (And.right (by with_reducible assumption)))))))) | exact And.right (And.right (And.right (And.right (And.right (And.right (And.right (And.right (And.right (by with_reducible assumption))))))))) | fail "mine")
  k_with "ne" => (first | k_extra "ltc" | ((with_reducible refine' Ne.symm ?_); k_extra "ltc") | ((with_reducible refine' Nat.ne_of_gt ?_); k_extra "ltc") | ((with_reducible refine' Nat.ne_of_lt ?_); k_extra "ltc") | ((with_reducible refine' Nat.ne_of_gt (Nat.lt_succ_of_lt ?_)); k_extra "ltc") | fail "mine")
  k_with "omega" => (first | k_extra "ltc" | with_reducible decide | k_extra "ne" | k_extra "bd" | fail "mine")
  k_with "bd" => (first | with_reducible exact Mine.p7 | ((with_reducible refine' Mine.o1 ?oh ?oe); (case oh => with_reducible assumption); (case oe => exact rfl)) | ((with_reducible refine' Mine.o2 ?oh ?oe); (case oh => with_reducible assumption); (case oe => exact rfl)) | ((with_reducible refine' Mine.o3 ?oh ?oe); (case oh => with_reducible assumption); (case oe => exact rfl)) | ((with_reducible refine' Mine.o4 ?oh ?oe); (case oh => with_reducible assumption); (case oe => exact rfl)) | ((with_reducible refine' Mine.o5 ?oh ?oe); (case oh => with_reducible assumption); (case oe => exact rfl)) | ((with_reducible refine' Mine.o6 ?oh ?oe); (case oh => with_reducible assumption); (case oe => exact rfl)) | ((with_reducible refine' Mine.o7 ?oh ?oe); (case oh => with_reducible assumption); (case oe => exact rfl)) | ((with_reducible refine' Mine.p1 ?oh ?oe); (case oh => with_reducible assumption); (case oe => exact rfl)) | ((with_reducible refine' Mine.p4 ?oh ?oe); (case oh => with_reducible assumption); (case oe => exact rfl)) | ((with_reducible refine' Mine.p6 ?oh ?oe); (case oh => with_reducible assumption); (case oe => exact rfl)) | ((with_reducible refine' Mine.r6 ?oh ?oe); (case oh => with_reducible assumption); (case oe => exact rfl)) | ((with_reducible refine' Mine.r13 ?oh ?oe); (case oh => with_reducible assumption); (case oe => exact rfl)) | ((with_reducible refine' Mine.r14 ?oh ?oe); (case oh => with_reducible assumption); (case oe => exact rfl)) | ((with_reducible refine' Mine.r15 ?oh ?oe); (case oh => with_reducible assumption); (case oe => exact rfl)) | ((with_reducible refine' Mine.r18 ?oh ?oe); (case oh => with_reducible assumption); (case oe => exact rfl)) | ((with_reducible refine' Mine.r19 ?oh ?oe); (case oh => with_reducible assumption); (case oe => exact rfl)) | ((with_reducible refine' Mine.r20 ?oh ?oe); (case oh => with_reducible assumption); (case oe => exact rfl)) | ((with_reducible refine' Mine.r21 ?oh ?oe); (case oh => with_reducible assumption); (case oe => exact rfl)) | ((with_reducible refine' Mine.o8 ?og ?oh ?oe); (case og => with_reducible assumption); (case oh => with_reducible assumption); (case oe => exact rfl)) | ((with_reducible refine' Mine.o9 ?og ?oh ?oe); (case og => with_reducible assumption); (case oh => with_reducible assumption); (case oe => exact rfl)) | ((with_reducible refine' Mine.p5 ?og ?oh ?oe); (case og => with_reducible assumption); (case oh => with_reducible assumption); (case oe => exact rfl)) | ((with_reducible refine' Mine.r5 ?og ?oh ?oe); (case og => with_reducible assumption); (case oh => with_reducible assumption); (case oe => exact rfl)) | ((with_reducible refine' Mine.r1 ?og ?oh); (case og => with_reducible assumption); (case oh => with_reducible assumption)) | ((with_reducible refine' Mine.r3 ?og ?oh); (case og => with_reducible assumption); (case oh => with_reducible assumption)) | ((with_reducible refine' Nat.le_trans ?og ?oh); (case og => with_reducible assumption); (case oh => with_reducible assumption)) | ((with_reducible refine' Mine.r22 ?oh); (case oh => with_reducible assumption)) | ((with_reducible refine' Mine.r23 ?oh); (case oh => with_reducible assumption)) | ((with_reducible refine' Mine.big_lo ?oh); (case oh => with_reducible assumption)) | ((with_reducible refine' Mine.big_hi ?oh); (case oh => with_reducible assumption)) | ((with_reducible refine' Mine.big_ten ?oh); (case oh => with_reducible assumption)) | ((with_reducible refine' Int.ne_of_gt ?_); k_extra "ltc") | ((with_reducible refine' Int.le_of_lt ?_); k_extra "ltc") | with_reducible exact Int.le_refl _ | with_reducible exact Nat.le_succ _ | with_reducible exact Nat.zero_add _ | fail "mine")
  k_with "call builtin:sorted" => ((k_here; (refine' sorted_led ?F ?N ?m ?i ?b ?_; (case F => k_asm); (case N => k_asm); (case m => k_mem); (case i => k_asm); (case b => k_asm); k_whole); intro wD' wvs' wc' wh' wF' wN' wl1' wi'; (try k_lt wl1'); (try dsimp only)))
  k_with "TurnG" => (first | ((with_reducible show TurnG _ _ _ _ _ _ _ (Flow.ret _) _); dsimp only [TurnG]) | ((with_reducible show TurnG _ _ _ _ _ _ _ Flow.brk _); dsimp only [TurnG]))
  k_with "exec Assign cons ListComp" => ((k_here; k_dflt (first
  | (refine LCt.Assign_ListComp_T (F₀ := by k_asm) (by rfl) (by with_unfolding_all rfl) (by with_unfolding_all rfl) (by decide) (by rfl) (by decide) (by rfl) (by rfl) (by rfl) ?_)
  | (refine LCg.Assign_ListComp_U (F₀ := by k_asm) (by rfl) (by with_unfolding_all rfl) (by with_unfolding_all rfl) (by decide) (by rfl) (by decide) (by rfl) (by rfl) (by rfl) ?_))))
  k_with "eval ListComp" => ((k_here; k_dflt (first
  | (refine LCt.ListComp_T (F₀ := by k_asm) (by with_unfolding_all rfl) (by decide) (by rfl) (by decide) (by rfl) ?_)
  | (refine LCg.ListComp_U (F₀ := by k_asm) (by with_unfolding_all rfl) (by decide) (by rfl) (by decide) (by rfl) ?_))))
  k_with "CompSrcT" => (fail "mine: by hand")
  k_with "CompSrc" => (fail "mine: by hand")
  k_with "call builtin:len" => ((k_here; k_dflt (refine' len_led ?N ?m ?b ?_; (case N => k_asm); (case m => k_mem); (case b => first | omega | ((simp only [sxs_size, rxs_size, List.size_toArray, List.length_map, Array.size_push]); omega)); k_whole)))
  k_with "compareOp In int ref" => ((k_here; k_dflt (refine' in_led ?N ?m ?i ?_; (case N => k_asm); (case m => k_mem); (case i => k_asm); k_whole)))
  k_with "compareOp NotIn int ref" => ((k_here; k_dflt (refine' notin_led ?N ?m ?i ?_; (case N => k_asm); (case m => k_mem); (case i => k_asm); k_whole)))
  k_with "setItem ref int" => ((k_here; k_dflt (refine' kda_set (knd := PySem.intKind _ _) ?F ?N ?U ?d (intKind_is _ _ _ _) ?z ?_; (case F => k_asm); (case N => k_asm); (case U => k_updF); (case d => k_asm); (case z => k_asm)); intro wh' wo' wF' wN' whd'; (try dsimp only at wN'); (try k_sweep); (try dsimp only)))
  k_with "setItem ref str" => ((k_here; k_dflt (refine' kda_set (knd := PySem.strKind _ _) ?F ?N ?U ?d (strKind_is _ _ _ _) ?z ?_; (case F => k_asm); (case N => k_asm); (case U => k_updF); (case d => k_asm); (case z => rw [sizeLine_eq]; exact Nat.le_of_ble_eq_true (by with_unfolding_all rfl))); intro wh' wo' wF' wN' whd'; (try first | rw [stored_cond] at whd' | rw [stored_ign] at whd' | rw [stored_hits] at whd' | rw [stored_on] at whd' | rw [stored_trb] at whd'); (try dsimp only at whd'); (try dsimp only at wN'); (try k_sweep); (try dsimp only)))
  k_with "subscriptTail Name" => ((k_here; (with_reducible show wpAny _ _ (subscriptTail _ _ (Value.ref _) (Value.str _ _)) _ _ _); k_dflt (refine kda_item (knd := PySem.strKind _ _) (by k_asm) (by k_mem) (by k_asm) (strKind_is _ _ _ _) (by rfl) ?_); (try dsimp only)))
  k_with "getItem ref str" => ((k_here; k_dflt (refine kdt_getItem (knd := PySem.strKind _ _) (by k_asm) (by k_mem) (by k_asm) (strKind_is _ _ _ _) (by rfl) ?_); (try dsimp only)))
  k_with "subscriptTail" => ((k_here; (with_reducible show wpAny _ _ (subscriptTail _ _ (Value.ref _) (Value.int _ _)) _ _ _); k_dflt (first
  | (refine' item_menu menu6 6 ?N ?m ?a ?b ?c (menu6_at _ _ _ _ _ _) ?_ (by with_unfolding_all rfl); (case N => k_asm); (case m => k_mem); (case a => exact fmod_ge _ _ (by decide)); (case b => exact fmod_lt' _ _ (by decide)); (case c => decide); k_whole)
  | (refine' item_menu menu2 2 ?N ?m ?a ?b ?c (menu2_at _ _) ?_ (by with_unfolding_all rfl); (case N => k_asm); (case m => k_mem); (case a => exact fmod_ge _ _ (by decide)); (case b => exact fmod_lt' _ _ (by decide)); (case c => decide); k_whole)
  | (refine' item_menu kindOf 2 ?N ?m ?a ?b ?c (kinds_at _ _) ?_ (by with_unfolding_all rfl); (case N => k_asm); (case m => k_mem); (case a => exact fmod_ge _ _ (by decide)); (case b => exact fmod_lt' _ _ (by decide)); (case c => decide); k_whole)); intro wtz'; (try dsimp only)))
  k_with "subscriptTail Name Name" => ((k_here; (with_reducible show wpAny _ _ (subscriptTail _ _ (Value.ref _) (Value.int _ _)) _ _ _); k_dflt (refine' item_int ?N ?m ?i ?a ?b ?c ?_ (by with_unfolding_all rfl); (case N => k_asm); (case m => k_mem); (case i => k_asm); (case a => omega); (case b => first | omega | (simp only [List.size_toArray] at *; omega)); (case c => omega); k_whole); intro wtz' whz'; (try dsimp only)))
  k_with "eval Name" => ((k_here; k_dflt (refine' ld ?k1 ?k2 ?_; (case k1 => k_asm); (case k2 => assumption); k_whole)))
  k_with "call builtin:list.append" => ((k_here; (with_reducible show wpAny _ _ (call (Value.builtin _) [Value.ref _, _]) _ _ _); k_dflt (refine' append_K ?k1 ?k2 ?k3 ?_ ?z; (case k1 => k_asm); (case k2 => k_asm); (case k3 => k_upd); (case z => first | size_fits | ((rw [sizeLine_eq]; simp only [List.size_toArray]); omega)); k_whole); intro wh' wF' wN'; (try k_sweep)))
  k_with "call ref" => (((with_reducible first | show wpAny _ _ (call (Value.ref 180) _) _ _ _ | show wpAny _ _ (call (Value.ref 114) _) _ _ _ | show wpAny _ _ (call (Value.ref 166) _) _ _ _ | show wpAny _ _ (call (Value.ref 107) _) _ _ _ | show wpAny _ _ (call (Value.ref 173) _) _ _ _ | show wpAny _ _ (call (Value.ref 119) _) _ _ _ | show wpAny _ _ (call (Value.ref 206) _) _ _ _ | show wpAny _ _ (call (Value.ref 194) _) _ _ _ | show wpAny _ _ (call (Value.ref 145) _) _ _ _ | show wpAny _ _ (call (Value.ref 199) _) _ _ _); refine stopHere ?_))
  k_with "compareOp NotEq ref ref" => ((refine stopHere ?_))
  k_with "compareOp Eq ref ref" => ((refine stopHere ?_))
  k_with "binaryOp Add ref ref" => ((refine stopHere ?_))
  k_with "execs cons If cons" => ((refine stopHere ?_))
  trivial
noncomputable abbrev envLaw (L a : Addr) (cd : Value) : Env := envOfC (Str.ofString "law") (defScope 16) L a cd
theorem map_known9 {m : Str → Option Value} {x1 x2 x3 x4 x5 x6 x7 x8 x9 : Str} {v1 v2 v3 v4 v5 v6 v7 v8 v9 : Option Value} (h1 : m x1 = v1) (h2 : m x2 = v2) (h3 : m x3 = v3) (h4 : m x4 = v4) (h5 : m x5 = v5) (h6 : m x6 = v6) (h7 : m x7 = v7) (h8 : m x8 = v8) (h9 : m x9 = v9) :
    m = fun y => if y = x1 then v1 else if y = x2 then v2 else if y = x3 then v3 else if y = x4 then v4 else if y = x5 then v5 else if y = x6 then v6 else if y = x7 then v7 else if y = x8 then v8 else if y = x9 then v9 else m y :=
  known1 (known1 (known1 (known1 (known1 (known1 (known1 (known1 (known1 rfl h9) h8) h7) h6) h5) h4) h3) h2) h1
noncomputable def mp9 (W S RR : Addr) (last sort which value one other : Int) (tl t1 t2 t3 t4 t5 : Tok) (m : Str → Option Value) : Str → Option Value := fun y =>
  if y = Str.ofString "well" then some (.ref W) else if y = Str.ofString "stops" then some (.ref S) else if y = Str.ofString "rows" then some (.ref RR) else if y = Str.ofString "last" then some (.int last tl) else
  if y = Str.ofString "sort" then some (.int sort t1) else if y = Str.ofString "which" then some (.int which t2) else if y = Str.ofString "value" then some (.int value t3) else if y = Str.ofString "one" then some (.int one t4) else if y = Str.ofString "other" then some (.int other t5) else m y
noncomputable def mp4 (W S RR : Addr) (last : Int) (tl : Tok) (m : Str → Option Value) : Str → Option Value := fun y =>
  if y = Str.ofString "well" then some (.ref W) else if y = Str.ofString "stops" then some (.ref S) else if y = Str.ofString "rows" then some (.ref RR) else if y = Str.ofString "last" then some (.int last tl) else m y
theorem len5 : ∀ {ds : List Int}, ds.length = 5 → ∃ a b c d e, ds = [a, b, c, d, e]
  | [a, b, c, d, e], _ => ⟨a, b, c, d, e, rfl⟩
theorem five {dvs : List Value} {ds : List Int} (hi : IntsAre dvs ds) (hl : ds.length = 5) : ∃ a b c d e ta tb tc td te, ds = [a, b, c, d, e] ∧ dvs = [.int a ta, .int b tb, .int c tc, .int d td, .int e te] := by
  obtain ⟨a, b, c, d, e, rfl⟩ := len5 hl
  obtain ⟨ta, _, rfl, h1⟩ := ints_cons hi
  obtain ⟨tb, _, rfl, h2⟩ := ints_cons h1
  obtain ⟨tc, _, rfl, h3⟩ := ints_cons h2
  obtain ⟨td, _, rfl, h4⟩ := ints_cons h3
  obtain ⟨te, _, rfl, h5⟩ := ints_cons h4
  obtain rfl := ints_nil h5
  exact ⟨a, b, c, d, e, ta, tb, tc, td, te, rfl, rfl⟩
/-- the names that stand between turns -/
structure Nm (m : Str → Option Value) (W S RR : Addr) (last : Int) : Prop where
  well : m (Str.ofString "well") = some (.ref W)
  stops : m (Str.ofString "stops") = some (.ref S)
  rows : m (Str.ofString "rows") = some (.ref RR)
  last : ∃ t, m (Str.ofString "last") = some (.int last t)
/-- the names that a turn has drawn -/
structure Dn (m : Str → Option Value) (sort which value one other : Int) : Prop where
  sort : ∃ t, m (Str.ofString "sort") = some (.int sort t)
  which : ∃ t, m (Str.ofString "which") = some (.int which t)
  value : ∃ t, m (Str.ofString "value") = some (.int value t)
  one : ∃ t, m (Str.ofString "one") = some (.int one t)
  other : ∃ t, m (Str.ofString "other") = some (.int other t)
theorem Nm.eq {m : Str → Option Value} {W S RR : Addr} {last : Int} (h : Nm m W S RR last) : ∃ t, m = mp4 W S RR last t m := by
  obtain ⟨t, hl⟩ := h.last
  exact ⟨t, map_known4 h.well h.stops h.rows hl⟩
theorem Dn.eq {m : Str → Option Value} {W S RR : Addr} {last sort which value one other : Int} (h : Nm m W S RR last) (h' : Dn m sort which value one other) : ∃ tl t1 t2 t3 t4 t5, m = mp9 W S RR last sort which value one other tl t1 t2 t3 t4 t5 m := by
  refine hold fun H9 hH9 => ?_
  obtain ⟨tl, hl⟩ := h.last
  obtain ⟨t1, hn1⟩ := h'.sort
  obtain ⟨t2, hn2⟩ := h'.which
  obtain ⟨t3, hn3⟩ := h'.value
  obtain ⟨t4, hn4⟩ := h'.one
  obtain ⟨t5, hn5⟩ := h'.other
  refine hH9 ?_
  clear hH9 H9
  exact ⟨tl, t1, t2, t3, t4, t5, map_known9 h.well h.stops h.rows hl hn1 hn2 hn3 hn4 hn5⟩
noncomputable abbrev turnBody : List Stmt := forBody (defBody 16)[5]?
set_option maxRecDepth 100000 in
set_option maxHeartbeats 8000000 in
theorem turn_head {I a c : Addr} {oI oc : Obj} {cd : Value} {W NA S D R RR : Addr} {items : List Itm} {i : Nat} {last : Int} {ti : Tok} {m₁ : Str → Option Value} {nx : List (Addr × Obj)} {Q : Flow → Shared → Prop}
    (B : Below callerA h₀ [] h₀) (X : (hd.heap_39 w.params).In h₀) (T : TopM mean mg mb h₀) (hi : i < 14)
    (F : Fr h₀ L s.heap (fun y => if y = Str.ofString "turn" then some (.int (i : Nat) ti) else m₁ y)) (N : News h₀ L s.heap ((I, oI) :: nx)) (hoff : ∀ p ∈ nx, p.1 ≠ I) (hc : (c, oc) ∈ nx)
    (x : St w nx [c] W NA S D R RR items (i + 1) i last) (hm : Nm m₁ W S RR last)
    (k : ∀ sort which value one other m₂ h₂ tk₂ Ld, 0 ≤ sort → sort < 12 → 0 ≤ which → which < 5 → 0 ≤ value → value < 12 → 0 ≤ one → one < 8 → 0 ≤ other → other < 8 → St w Ld [I, c] W NA S D R RR items (i + 1 + 1) i last → (I, oI) ∈ Ld → (c, oc) ∈ Ld →
      Nm m₂ W S RR last → Dn m₂ sort which value one other → Fr h₀ L h₂ m₂ → News h₀ L h₂ Ld → wpAny (model prg w) (callerA.deeper (envLaw L a cd)) (execs (turnBody.drop 1) (envLaw L a cd)) Q E { s with heap := h₂, toks := tk₂ }) :
    wpAny (model prg w) (callerA.deeper (envLaw L a cd)) (execs turnBody (envLaw L a cd)) Q E s := by
  unfold turnBody envLaw at *
  with_unfolding_all show wpAny _ (Around.deeper _ (envOfC _ (Scope.mk _ _ _ _ _) _ _ _)) (execs (_ :: _) (envOfC _ (Scope.mk _ _ _ _ _) _ _ _)) _ _ _
  have y := x.more (o := oI) hoff
  refine hold fun H9 hH9 => ?_
  obtain ⟨carry, tw1, tw2, kw, hW, hc0, hc1⟩ := y.hW
  obtain ⟨tl, em⟩ := hm.eq
  rw [em] at F
  obtain ⟨nvs, nums, cn, hNA, hni, hnl, hnb⟩ := y.hNA
  refine hH9 ?_
  clear hH9 H9
  have hWNA : @Ne Nat NA W := by
    exact Ne.symm y.nwn
  k_steps
  unfold Halt
  rename_i Z hp F1 N1
  have hWZ : @Ne Nat W Z := by
    rcases List.mem_cons.mp hW with e | e
    · rw [show W = I from congrArg Prod.fst e]; exact Nat.ne_of_lt hlt9.1
    · exact neAll hz8 _ e
  refine hold fun H9 hH9 => ?_
  obtain ⟨svs, hsv, N2⟩ : ∃ svs, IntsAre svs [12, 5, 12, 8, 8] ∧ News h₀ L hp ((Z, listOf (List.toArray svs) 0) :: (I, oI) :: nx) := ⟨_, .cons 12 _ (.cons 5 _ (.cons 12 _ (.cons 8 _ (.cons 8 _ .nil)))), N1⟩
  refine hH9 ?_
  clear hH9 H9
  clear N1
  refine draw_spec (W := W) (NA := NA) (place := ((i + 1 : Nat) : Int)) (carry := carry) (t1 := tw1) (t2 := tw2) (k := kw) (sizes := [12, 5, 12, 8, 8]) (rest := (Z, listOf (List.toArray svs) 0) :: del W ((I, oI) :: nx)) B F1 X (newsSub N2 ?_) T rfl rfl (by decide) ?_ ?_ (List.mem_cons_of_mem _ (mem_del.mpr ⟨hNA, hWNA⟩)) hni List.mem_cons_self hsv hnb hnl (by omega) (by omega) hc0 hc1 (by decide) (by decide)
  · intro q hq
    rcases List.mem_cons.mp hq with rfl | hq
    · exact List.mem_cons_of_mem _ hW
    rcases List.mem_cons.mp hq with rfl | hq
    · exact List.mem_cons_self
    · exact List.mem_cons_of_mem _ (del_in _ hq)
  · intro h2 tk2 D2 dvs ds c' carry' ta tb F2 N3 hdi hdl hdb hcc0 hcc1 hWD hoffD
    obtain ⟨sort, which, value, one, other, t1, t2, t3, t4, t5, rfl, rfl⟩ := five hdi hdl
    have b1 := bnd (hdb 0 _ rfl) rfl
    have b2 := bnd (hdb 1 _ rfl) rfl
    have b3 := bnd (hdb 2 _ rfl) rfl
    have b4 := bnd (hdb 3 _ rfl) rfl
    have b5 := bnd (hdb 4 _ rfl) rfl
    clear F1 N2 hdb
    k_steps
    unfold Halt
    rename Fr h₀ L _ _ => F4
    rename News h₀ L _ _ => N4
    have hIW : @Ne Nat I W := by
      exact (y.pw (.head _))
    have hcW : @Ne Nat c W := by
      exact (y.pw (.tail _ (.head _)))
    refine k sort which value one other _ _ _ ((W, listOf [Value.ref NA, .int (((i + 1 : Nat) : Int) + 1) ta, .int carry' tb].toArray kw) :: del W ((I, oI) :: nx)) (by omega) (by omega) (by omega) (by omega) (by omega) (by omega) (by omega) (by omega) (by omega) (by omega)
      (y.draw List.mem_cons_self hcc0 hcc1 fun q hq hne => List.mem_cons_of_mem _ (mem_del.mpr ⟨hq, hne⟩)) (List.mem_cons_of_mem _ (mem_del.mpr ⟨List.mem_cons_self, hIW⟩)) (List.mem_cons_of_mem _ (mem_del.mpr ⟨List.mem_cons_of_mem _ hc, hcW⟩))
      ⟨rfl, rfl, rfl, _, rfl⟩ ⟨⟨_, rfl⟩, ⟨_, rfl⟩, ⟨_, rfl⟩, ⟨_, rfl⟩, _, rfl⟩ F4 (newsSub N4 ?_)
    intro q hq
    rcases List.mem_cons.mp hq with hq | hq
    · exact hq ▸ .tail _ (.head _)
    · exact .tail _ (.tail _ (.tail _ hq))
  · intro q hq
    rcases List.mem_cons.mp hq with rfl | hq
    · exact Ne.symm hWZ
    · exact del_off q hq
-- part C21
theorem words_C21 : True := by
  k_with_none
  k_with "spliced" => (refine args_nil ?_; (try dsimp only [List.cons_append, List.nil_append]))
  k_with "mem" => ((refine memL ?_); with_reducible assumption)
  k_with "all" => (first | with_reducible assumption | exact Mine.neAll (by with_reducible assumption) | fail "mine")
  k_with "put" => (first | exact put_last | exact put_rows | exact put_cond | exact put_ign | exact put_hits | exact put_on | exact put_trb | fail "mine")
  k_with "room" => (first | exact Mine.rm 0 (by exact rfl) (by with_reducible assumption) (by exact rfl) | exact Mine.rm 1 (by exact rfl) (by with_reducible assumption) (by exact rfl) | exact Mine.rm 2 (by exact rfl) (by with_reducible assumption) (by exact rfl) | exact Mine.rm 3 (by exact rfl) (by with_reducible assumption) (by exact rfl) | exact Mine.rm 4 (by exact rfl) (by with_reducible assumption) (by exact rfl) | (simp only [depth_under_make, depth_under_kw, depth_in1, depth_deeper, recursionLimit]; omega))
  k_with "size" => (first | with_reducible assumption | with_reducible exact Mine.sz0 | with_reducible exact Mine.sz1 | with_reducible exact Mine.sz2 | with_reducible exact Mine.sz3 | with_reducible exact Mine.sz4 | with_reducible exact Mine.sz5 | with_reducible exact Mine.sz6 | exact Mine.sz_lt (by with_reducible assumption) (by exact rfl) | exact Mine.sz_le (by with_reducible assumption) (by exact rfl) | fail "mine")
  k_with "lt" => ((rename AllLt _ _ => hlt9); (try dsimp only [AllLt] at hlt9); (try simp only [and_true] at hlt9); (try first | (have hz8 := AllLt.lt (hlt9)) | (have hz8 := AllLt.lt (hlt9).2) | (have hz8 := AllLt.lt (hlt9).2.2) | (have hz8 := AllLt.lt (hlt9).2.2.2) | (have hz8 := AllLt.lt (hlt9).2.2.2.2) | (have hz8 := AllLt.lt (hlt9).2.2.2.2.2) | (have hz8 := AllLt.lt (hlt9).2.2.2.2.2.2) | (have hz8 := AllLt.lt (hlt9).2.2.2.2.2.2.2) | (have hz8 := AllLt.lt (hlt9).2.2.2.2.2.2.2.2) | (have hz8 := AllLt.lt (hlt9).2.2.2.2.2.2.2.2.2) | (have hz8 := AllLt.lt (hlt9).2.2.2.2.2.2.2.2.2.2) | (have hz8 := AllLt.lt (hlt9).2.2.2.2.2.2.2.2.2.2.2) | (have hz8 := AllLt.lt (hlt9).2.2.2.2.2.2.2.2.2.2.2.2)))
  k_with "ltc" => (first | with_reducible assumption | exact And.left (by with_reducible assumption) | exact And.left (And.right (by with_reducible assumption)) | exact And.left (And.right (And.right (by with_reducible assumption))) | exact And.left (And.right (And.right (And.right (by with_reducible assumption)))) | exact And.left (And.right (And.right (And.right (And.right (by with_reducible assumption))))) | exact And.left (And.right (And.right (And.right (And.right (And.right (by with_reducible assumption)))))) | exact And.left (And.right (And.right (And.right (And.right (And.right (And.right (by with_reducible assumption))))))) | exact And.left (And.right (And.right (And.right (And.right (And.right (And.right (And.right (by with_reducible assumption)))))))) | exact And.left (And.right (And.right (And.right (And.right (And.right (And.right (And.right (And.right (by with_reducible assumption))))))))) | exact And.left (And.right (And.right (And.right (And.right (And.right (And.right (And.right (And.right (And.right (by with_reducible assumption)))))))))) | exact And.right (by with_reducible assumption) | exact And.right (And.right (by with_reducible assumption)) | exact And.right (And.right (And.right (by with_reducible assumption))) | exact And.right (And.right (And.right (And.right (by with_reducible assumption)))) | exact And.right (And.right (And.right (And.right (And.right (by with_reducible assumption))))) | exact And.right (And.right (And.right (And.right (And.right (And.right (by with_reducible assumption)))))) | exact And.right (And.right (And.right (And.right (And.right (And.right (And.right (by with_reducible assumption))))))) | exact And.right (And.right (And.right (And.right (And.right (And.right (And.right (And.right (by with_reducible assumption)))))))) | exact And.right (And.right (And.right (And.right (And.right (And.right (And.right (And.right (And.right (by with_reducible assumption))))))))) | fail "mine")
  k_with "ne" => (first | k_extra "ltc" | ((with_reducible refine' Ne.symm ?_); k_extra "ltc") | ((with_reducible refine' Nat.ne_of_gt ?_); k_extra "ltc") | ((with_reducible refine' Nat.ne_of_lt ?_); k_extra "ltc") | ((with_reducible refine' Nat.ne_of_gt (Nat.lt_succ_of_lt ?_)); k_extra "ltc") | fail "mine")
  k_with "omega" => (first | k_extra "ltc" | with_reducible decide | k_extra "ne" | k_extra "bd" | fail "mine")
  k_with "bd" => (first | with_reducible exact Mine.p7 | ((with_reducible refine' Mine.o1 ?oh ?oe); (case oh => with_reducible assumption); (case oe => exact rfl)) | ((with_reducible refine' Mine.o2 ?oh ?oe); (case oh => with_reducible assumption); (case oe => exact rfl)) | ((with_reducible refine' Mine.o3 ?oh ?oe); (case oh => with_reducible assumption); (case oe => exact rfl)) | ((with_reducible refine' Mine.o4 ?oh ?oe); (case oh => with_reducible assumption); (case oe => exact rfl)) | ((with_reducible refine' Mine.o5 ?oh ?oe); (case oh => with_reducible assumption); (case oe => exact rfl)) | ((with_reducible refine' Mine.o6 ?oh ?oe); (case oh => with_reducible assumption); (case oe => exact rfl)) | ((with_reducible refine' Mine.o7 ?oh ?oe); (case oh => with_reducible assumption); (case oe => exact rfl)) | ((with_reducible refine' Mine.p1 ?oh ?oe); (case oh => with_reducible assumption); (case oe => exact rfl)) | ((with_reducible refine' Mine.p4 ?oh ?oe); (case oh => with_reducible assumption); (case oe => exact rfl)) | ((with_reducible refine' Mine.p6 ?oh ?oe); (case oh => with_reducible assumption); (case oe => exact rfl)) | ((with_reducible refine' Mine.r6 ?oh ?oe); (case oh => with_reducible assumption); (case oe => exact rfl)) | ((with_reducible refine' Mine.r13 ?oh ?oe); (case oh => with_reducible assumption); (case oe => exact rfl)) | ((with_reducible refine' Mine.r14 ?oh ?oe); (case oh => with_reducible assumption); (case oe => exact rfl)) | ((with_reducible refine' Mine.r15 ?oh ?oe); (case oh => with_reducible assumption); (case oe => exact rfl)) | ((with_reducible refine' Mine.r18 ?oh ?oe); (case oh => with_reducible assumption); (case oe => exact rfl)) | ((with_reducible refine' Mine.r19 ?oh ?oe); (case oh => with_reducible assumption); (case oe => exact rfl)) | ((with_reducible refine' Mine.r20 ?oh ?oe); (case oh => with_reducible assumption); (case oe => exact rfl)) | ((with_reducible refine' Mine.r21 ?oh ?oe); (case oh => with_reducible assumption); (case oe => exact rfl)) | ((with_reducible refine' Mine.o8 ?og ?oh ?oe); (case og => with_reducible assumption); (case oh => with_reducible assumption); (case oe => exact rfl)) | ((with_reducible refine' Mine.o9 ?og ?oh ?oe); (case og => with_reducible assumption); (case oh => with_reducible assumption); (case oe => exact rfl)) | ((with_reducible refine' Mine.p5 ?og ?oh ?oe); (case og => with_reducible assumption); (case oh => with_reducible assumption); (case oe => exact rfl)) | ((with_reducible refine' Mine.r5 ?og ?oh ?oe); (case og => with_reducible assumption); (case oh => with_reducible assumption); (case oe => exact rfl)) | ((with_reducible refine' Mine.r1 ?og ?oh); (case og => with_reducible assumption); (case oh => with_reducible assumption)) | ((with_reducible refine' Mine.r3 ?og ?oh); (case og => with_reducible assumption); (case oh => with_reducible assumption)) | ((with_reducible refine' Nat.le_trans ?og ?oh); (case og => with_reducible assumption); (case oh => with_reducible assumption)) | ((with_reducible refine' Mine.r22 ?oh); (case oh => with_reducible assumption)) | ((with_reducible refine' Mine.r23 ?oh); (case oh => with_reducible assumption)) | ((with_reducible refine' Mine.big_lo ?oh); (case oh => with_reducible assumption)) | ((with_reducible refine' Mine.big_hi ?oh); (case oh => with_reducible assumption)) | ((with_reducible refine' Mine.big_ten ?oh); (case oh => with_reducible assumption)) | ((with_reducible refine' Int.ne_of_gt ?_); k_extra "ltc") | ((with_reducible refine' Int.le_of_lt ?_); k_extra "ltc") | with_reducible exact Int.le_refl _ | with_reducible exact Nat.le_succ _ | with_reducible exact Nat.zero_add _ | fail "mine")
  trivial
/-- what holds between the turns of law -/
def JL (w : World) (c W NA S D : Addr) (i : Nat) (m' : Str → Option Value) (nx : List (Addr × Obj)) : Prop :=
  ∃ R RR items last oc, St w nx [c] W NA S D R RR items (i + 1) i last ∧ (c, oc) ∈ nx ∧ (∃ v, oc.data = .cell v) ∧ Nm m' W S RR last
theorem turn_end {I c : Addr} {oI oc : Obj} {W NA S D R RR : Addr} {items : List Itm} {i : Nat} {last : Int} {m' : Str → Option Value} {Ld : List (Addr × Obj)} {Q : Flow → Shared → Prop} {h : Heap} {tk : Nat}
    (x : St w Ld [I, c] W NA S D R RR items (i + 1 + 1) (i + 1) last) (hI : (I, oI) ∈ Ld) (hc : (c, oc) ∈ Ld) (hoc : ∃ v, oc.data = .cell v) (hm : Nm m' W S RR last) (F : Fr h₀ L h m') (N : News h₀ L h Ld) :
    TurnG h₀ L (JL w c W NA S D (i + 1)) I oI s Q .next { s with heap := h, toks := tk } := by
  have hcI : @Ne Nat c I := by
    exact x.pre2
  exact ⟨h, tk, m', del I Ld, rfl, F, newsSub N (del_sub hI), del_off, R, RR, items, last, oc, x.unpre (fun q hq hne => mem_del.mpr ⟨hq, hne⟩), mem_del.mpr ⟨hc, hcI⟩, hoc, hm⟩
theorem looks_at {a : Addr} {cd : Value} {pre : List Addr} {W NA S D R RR : Addr} {items : List Itm} {p b : Nat} {last : Int} {tl : Tok} {Ld : List (Addr × Obj)}
    (B : Below callerA h₀ [] h₀) (X : (hd.heap_39 w.params).In h₀) (T : TopM mean mg mb h₀) (F : Fr h₀ L s.heap m) (N : News h₀ L s.heap Ld) (x : St w Ld pre W NA S D R RR items p b last) (hb : b < 40)
    (h : ∀ h' tk, Fr h₀ L h' m → News h₀ L h' Ld → Q (.bool true) { s with heap := h', toks := tk }) :
    wpAny (model prg w) (callerA.deeper (envLaw L a cd)) (call (.ref 199) [.ref S, .ref RR, .int last tl] []) Q E s := by
  refine hold fun H9 hH9 => ?_
  obtain ⟨_, _, _, _, hD⟩ := x.hD
  obtain ⟨_, hR⟩ := x.hR
  obtain ⟨_, hRR⟩ := x.hRR
  refine hH9 ?_
  clear hH9 H9
  have hl := x.len
  have hl0 := x.l0
  have hl1 := x.l1
  exact looks_spec (d := callerA.depth + 1) (u := callerA.units + 3) (gd := callerA.guards) B F X N T rfl rfl (by decide) (by decide) x.hS hD hR hRR x.hall (by omega) (fun i hi => (x.good i hi).len) x.keys x.l0 (by omega)
    (fun i hi => by have := x.good i hi; exact ⟨by have := this.num0; omega, by have := this.num1; omega⟩) h
section
variable {prog : Program} {A : Around} {l : Addr} {c : Nat} {k : Int} {tk : Tok} {items : List Itm}
theorem item_row {value slice : Expr} (N : News h₀ L s.heap news) (hm : (l, listOf (rxs items) c) ∈ news) (h0 : 0 ≤ k) (h1 : k < (items.length : Int)) (hN : items.length ≤ 100000) (h : ∀ it, it ∈ items → Q (.ref it.rx) s)
    (hs : subscripted slice false (.ref l) (.int k tk) = operate [.ref l, .int k tk] (getItem (.ref l) (.int k tk))) :
    wpAny (model prog w) A (subscriptTail value slice (.ref l) (.int k tk)) Q E s := by
  have hlt : k.toNat < items.length := by omega
  have hL : s.heap.IsList l (rxs items) := ⟨_, (N _ hm).1, rfl, c, rfl⟩
  refine tail_any hL.typeIs slot_list_getitem.lookup (wpAny_getItem_list hL h0 (by omega) ?_ (h items[k.toNat] (List.getElem_mem hlt))) hs
  simp [rxs, hlt]
end
noncomputable def ifBody (s : Option Stmt) : List Stmt := match s with | some (.If _ b _ _) => b | _ => []
-- part C22
theorem words_C22 : True := by
  k_with_none
  k_with "spliced" => (refine args_nil ?_; (try dsimp only [List.cons_append, List.nil_append]))
  k_with "mem" => ((refine memL ?_); with_reducible assumption)
  k_with "all" => (first | with_reducible assumption | exact Mine.neAll (by with_reducible assumption) | fail "mine")
  k_with "put" => (first | exact put_last | exact put_rows | exact put_cond | exact put_ign | exact put_hits | exact put_on | exact put_trb | fail "mine")
  k_with "room" => (first | exact Mine.rm 0 (by exact rfl) (by with_reducible assumption) (by exact rfl) | exact Mine.rm 1 (by exact rfl) (by with_reducible assumption) (by exact rfl) | exact Mine.rm 2 (by exact rfl) (by with_reducible assumption) (by exact rfl) | exact Mine.rm 3 (by exact rfl) (by with_reducible assumption) (by exact rfl) | exact Mine.rm 4 (by exact rfl) (by with_reducible assumption) (by exact rfl) | (simp only [depth_under_make, depth_under_kw, depth_in1, depth_deeper, recursionLimit]; omega))
  k_with "size" => (first | with_reducible assumption | with_reducible exact Mine.sz0 | with_reducible exact Mine.sz1 | with_reducible exact Mine.sz2 | with_reducible exact Mine.sz3 | with_reducible exact Mine.sz4 | with_reducible exact Mine.sz5 | with_reducible exact Mine.sz6 | exact Mine.sz_lt (by with_reducible assumption) (by exact rfl) | exact Mine.sz_le (by with_reducible assumption) (by exact rfl) | fail "mine")
  k_with "lt" => ((rename AllLt _ _ => hlt9); (try dsimp only [AllLt] at hlt9); (try simp only [and_true] at hlt9); (try first | (have hz8 := AllLt.lt (hlt9)) | (have hz8 := AllLt.lt (hlt9).2) | (have hz8 := AllLt.lt (hlt9).2.2) | (have hz8 := AllLt.lt (hlt9).2.2.2) | (have hz8 := AllLt.lt (hlt9).2.2.2.2) | (have hz8 := AllLt.lt (hlt9).2.2.2.2.2) | (have hz8 := AllLt.lt (hlt9).2.2.2.2.2.2) | (have hz8 := AllLt.lt (hlt9).2.2.2.2.2.2.2) | (have hz8 := AllLt.lt (hlt9).2.2.2.2.2.2.2.2) | (have hz8 := AllLt.lt (hlt9).2.2.2.2.2.2.2.2.2) | (have hz8 := AllLt.lt (hlt9).2.2.2.2.2.2.2.2.2.2) | (have hz8 := AllLt.lt (hlt9).2.2.2.2.2.2.2.2.2.2.2) | (have hz8 := AllLt.lt (hlt9).2.2.2.2.2.2.2.2.2.2.2.2)))
  k_with "ltc" => (first | with_reducible assumption | exact And.left (by with_reducible assumption) | exact And.left (And.right (by with_reducible assumption)) | exact And.left (And.right (And.right (by with_reducible assumption))) | exact And.left (And.right (And.right (And.right (by with_reducible assumption)))) | exact And.left (And.right (And.right (And.right (And.right (by with_reducible assumption))))) | exact And.left (And.right (And.right (And.right (And.right (And.right (by with_reducible assumption)))))) | exact And.left (And.right (And.right (And.right (And.right (And.right (And.right (by with_reducible assumption))))))) | exact And.left (And.right (And.right (And.right (And.right (And.right (And.right (And.right (by with_reducible assumption)))))))) | exact And.left (And.right (And.right (And.right (And.right (And.right (And.right (And.right (And.right (by with_reducible assumption))))))))) | exact And.left (And.right (And.right (And.right (And.right (And.right (And.right (And.right (And.right (And.right (by with_reducible assumption)))))))))) | exact And.right (by with_reducible assumption) | exact And.right (And.right (by with_reducible assumption)) | exact And.right (And.right (And.right (by with_reducible assumption))) | exact And.right (And.right (And.right (And.right (by with_reducible assumption)))) | exact And.right (And.right (And.right (And.right (And.right (by with_reducible assumption))))) | exact And.right (And.right (And.right (And.right (And.right (And.right (by with_reducible assumption)))))) | exact And.right (And.right (And.right (And.right (And.right (And.right (And.right (by with_reducible assumption))))))) | exact And.right (And.right (And.right (And.right (And.right (And.right (And.right (And.right (by with_reducible assumption)))))))) | exact And.right (And.right (And.right (And.right (And.right (And.right (And.right (And.right (And.right (by with_reducible assumption))))))))) | fail "mine")
  k_with "ne" => (first | k_extra "ltc" | ((with_reducible refine' Ne.symm ?_); k_extra "ltc") | ((with_reducible refine' Nat.ne_of_gt ?_); k_extra "ltc") | ((with_reducible refine' Nat.ne_of_lt ?_); k_extra "ltc") | ((with_reducible refine' Nat.ne_of_gt (Nat.lt_succ_of_lt ?_)); k_extra "ltc") | fail "mine")
  k_with "omega" => (first | k_extra "ltc" | with_reducible decide | k_extra "ne" | k_extra "bd" | fail "mine")
  k_with "bd" => (first | with_reducible exact Mine.p7 | ((with_reducible refine' Mine.o1 ?oh ?oe); (case oh => with_reducible assumption); (case oe => exact rfl)) | ((with_reducible refine' Mine.o2 ?oh ?oe); (case oh => with_reducible assumption); (case oe => exact rfl)) | ((with_reducible refine' Mine.o3 ?oh ?oe); (case oh => with_reducible assumption); (case oe => exact rfl)) | ((with_reducible refine' Mine.o4 ?oh ?oe); (case oh => with_reducible assumption); (case oe => exact rfl)) | ((with_reducible refine' Mine.o5 ?oh ?oe); (case oh => with_reducible assumption); (case oe => exact rfl)) | ((with_reducible refine' Mine.o6 ?oh ?oe); (case oh => with_reducible assumption); (case oe => exact rfl)) | ((with_reducible refine' Mine.o7 ?oh ?oe); (case oh => with_reducible assumption); (case oe => exact rfl)) | ((with_reducible refine' Mine.p1 ?oh ?oe); (case oh => with_reducible assumption); (case oe => exact rfl)) | ((with_reducible refine' Mine.p4 ?oh ?oe); (case oh => with_reducible assumption); (case oe => exact rfl)) | ((with_reducible refine' Mine.p6 ?oh ?oe); (case oh => with_reducible assumption); (case oe => exact rfl)) | ((with_reducible refine' Mine.r6 ?oh ?oe); (case oh => with_reducible assumption); (case oe => exact rfl)) | ((with_reducible refine' Mine.r13 ?oh ?oe); (case oh => with_reducible assumption); (case oe => exact rfl)) | ((with_reducible refine' Mine.r14 ?oh ?oe); (case oh => with_reducible assumption); (case oe => exact rfl)) | ((with_reducible refine' Mine.r15 ?oh ?oe); (case oh => with_reducible assumption); (case oe => exact rfl)) | ((with_reducible refine' Mine.r18 ?oh ?oe); (case oh => with_reducible assumption); (case oe => exact rfl)) | ((with_reducible refine' Mine.r19 ?oh ?oe); (case oh => with_reducible assumption); (case oe => exact rfl)) | ((with_reducible refine' Mine.r20 ?oh ?oe); (case oh => with_reducible assumption); (case oe => exact rfl)) | ((with_reducible refine' Mine.r21 ?oh ?oe); (case oh => with_reducible assumption); (case oe => exact rfl)) | ((with_reducible refine' Mine.o8 ?og ?oh ?oe); (case og => with_reducible assumption); (case oh => with_reducible assumption); (case oe => exact rfl)) | ((with_reducible refine' Mine.o9 ?og ?oh ?oe); (case og => with_reducible assumption); (case oh => with_reducible assumption); (case oe => exact rfl)) | ((with_reducible refine' Mine.p5 ?og ?oh ?oe); (case og => with_reducible assumption); (case oh => with_reducible assumption); (case oe => exact rfl)) | ((with_reducible refine' Mine.r5 ?og ?oh ?oe); (case og => with_reducible assumption); (case oh => with_reducible assumption); (case oe => exact rfl)) | ((with_reducible refine' Mine.r1 ?og ?oh); (case og => with_reducible assumption); (case oh => with_reducible assumption)) | ((with_reducible refine' Mine.r3 ?og ?oh); (case og => with_reducible assumption); (case oh => with_reducible assumption)) | ((with_reducible refine' Nat.le_trans ?og ?oh); (case og => with_reducible assumption); (case oh => with_reducible assumption)) | ((with_reducible refine' Mine.r22 ?oh); (case oh => with_reducible assumption)) | ((with_reducible refine' Mine.r23 ?oh); (case oh => with_reducible assumption)) | ((with_reducible refine' Mine.big_lo ?oh); (case oh => with_reducible assumption)) | ((with_reducible refine' Mine.big_hi ?oh); (case oh => with_reducible assumption)) | ((with_reducible refine' Mine.big_ten ?oh); (case oh => with_reducible assumption)) | ((with_reducible refine' Int.ne_of_gt ?_); k_extra "ltc") | ((with_reducible refine' Int.le_of_lt ?_); k_extra "ltc") | with_reducible exact Int.le_refl _ | with_reducible exact Nat.le_succ _ | with_reducible exact Nat.zero_add _ | fail "mine")
  k_with "call builtin:sorted" => ((k_here; (refine' sorted_led ?F ?N ?m ?i ?b ?_; (case F => k_asm); (case N => k_asm); (case m => k_mem); (case i => k_asm); (case b => k_asm); k_whole); intro wD' wvs' wc' wh' wF' wN' wl1' wi'; (try k_lt wl1'); (try dsimp only)))
  k_with "TurnG" => (first | ((with_reducible show TurnG _ _ _ _ _ _ _ (Flow.ret _) _); dsimp only [TurnG]) | ((with_reducible show TurnG _ _ _ _ _ _ _ Flow.brk _); dsimp only [TurnG]))
  k_with "exec Assign cons ListComp" => ((k_here; k_dflt (first
  | (refine LCt.Assign_ListComp_T (F₀ := by k_asm) (by rfl) (by with_unfolding_all rfl) (by with_unfolding_all rfl) (by decide) (by rfl) (by decide) (by rfl) (by rfl) (by rfl) ?_)
  | (refine LCg.Assign_ListComp_U (F₀ := by k_asm) (by rfl) (by with_unfolding_all rfl) (by with_unfolding_all rfl) (by decide) (by rfl) (by decide) (by rfl) (by rfl) (by rfl) ?_))))
  k_with "eval ListComp" => ((k_here; k_dflt (first
  | (refine LCt.ListComp_T (F₀ := by k_asm) (by with_unfolding_all rfl) (by decide) (by rfl) (by decide) (by rfl) ?_)
  | (refine LCg.ListComp_U (F₀ := by k_asm) (by with_unfolding_all rfl) (by decide) (by rfl) (by decide) (by rfl) ?_))))
  k_with "CompSrcT" => (fail "mine: by hand")
  k_with "CompSrc" => (fail "mine: by hand")
  k_with "call builtin:len" => ((k_here; k_dflt (refine' len_led ?N ?m ?b ?_; (case N => k_asm); (case m => k_mem); (case b => first | omega | ((simp only [sxs_size, rxs_size, List.size_toArray, List.length_map, Array.size_push]); omega)); k_whole)))
  k_with "compareOp In int ref" => ((k_here; k_dflt (refine' in_led ?N ?m ?i ?_; (case N => k_asm); (case m => k_mem); (case i => k_asm); k_whole)))
  k_with "compareOp NotIn int ref" => ((k_here; k_dflt (refine' notin_led ?N ?m ?i ?_; (case N => k_asm); (case m => k_mem); (case i => k_asm); k_whole)))
  k_with "setItem ref int" => ((k_here; k_dflt (refine' kda_set (knd := PySem.intKind _ _) ?F ?N ?U ?d (intKind_is _ _ _ _) ?z ?_; (case F => k_asm); (case N => k_asm); (case U => k_updF); (case d => k_asm); (case z => k_asm)); intro wh' wo' wF' wN' whd'; (try dsimp only at wN'); (try k_sweep); (try dsimp only)))
  k_with "setItem ref str" => ((k_here; k_dflt (refine' kda_set (knd := PySem.strKind _ _) ?F ?N ?U ?d (strKind_is _ _ _ _) ?z ?_; (case F => k_asm); (case N => k_asm); (case U => k_updF); (case d => k_asm); (case z => rw [sizeLine_eq]; exact Nat.le_of_ble_eq_true (by with_unfolding_all rfl))); intro wh' wo' wF' wN' whd'; (try first | rw [stored_cond] at whd' | rw [stored_ign] at whd' | rw [stored_hits] at whd' | rw [stored_on] at whd' | rw [stored_trb] at whd'); (try dsimp only at whd'); (try dsimp only at wN'); (try k_sweep); (try dsimp only)))
  k_with "subscriptTail Name" => ((k_here; (with_reducible show wpAny _ _ (subscriptTail _ _ (Value.ref _) (Value.str _ _)) _ _ _); k_dflt (refine kda_item (knd := PySem.strKind _ _) (by k_asm) (by k_mem) (by k_asm) (strKind_is _ _ _ _) (by rfl) ?_); (try dsimp only)))
  k_with "getItem ref str" => ((k_here; k_dflt (refine kdt_getItem (knd := PySem.strKind _ _) (by k_asm) (by k_mem) (by k_asm) (strKind_is _ _ _ _) (by rfl) ?_); (try dsimp only)))
  k_with "subscriptTail" => ((k_here; (with_reducible show wpAny _ _ (subscriptTail _ _ (Value.ref _) (Value.int _ _)) _ _ _); k_dflt (first
  | (refine' item_menu menu6 6 ?N ?m ?a ?b ?c (menu6_at _ _ _ _ _ _) ?_ (by with_unfolding_all rfl); (case N => k_asm); (case m => k_mem); (case a => exact fmod_ge _ _ (by decide)); (case b => exact fmod_lt' _ _ (by decide)); (case c => decide); k_whole)
  | (refine' item_menu menu2 2 ?N ?m ?a ?b ?c (menu2_at _ _) ?_ (by with_unfolding_all rfl); (case N => k_asm); (case m => k_mem); (case a => exact fmod_ge _ _ (by decide)); (case b => exact fmod_lt' _ _ (by decide)); (case c => decide); k_whole)
  | (refine' item_menu kindOf 2 ?N ?m ?a ?b ?c (kinds_at _ _) ?_ (by with_unfolding_all rfl); (case N => k_asm); (case m => k_mem); (case a => exact fmod_ge _ _ (by decide)); (case b => exact fmod_lt' _ _ (by decide)); (case c => decide); k_whole)); intro wtz'; (try dsimp only)))
  k_with "subscriptTail Name Name" => ((k_here; (with_reducible show wpAny _ _ (subscriptTail _ _ (Value.ref _) (Value.int _ _)) _ _ _); k_dflt (refine' item_int ?N ?m ?i ?a ?b ?c ?_ (by with_unfolding_all rfl); (case N => k_asm); (case m => k_mem); (case i => k_asm); (case a => omega); (case b => first | omega | (simp only [List.size_toArray] at *; omega)); (case c => omega); k_whole); intro wtz' whz'; (try dsimp only)))
  k_with "eval Name" => ((k_here; k_dflt (refine' ld ?k1 ?k2 ?_; (case k1 => k_asm); (case k2 => assumption); k_whole)))
  k_with "call builtin:list.append" => ((k_here; (with_reducible show wpAny _ _ (call (Value.builtin _) [Value.ref _, _]) _ _ _); k_dflt (refine' append_K ?k1 ?k2 ?k3 ?_ ?z; (case k1 => k_asm); (case k2 => k_asm); (case k3 => k_upd); (case z => first | size_fits | ((rw [sizeLine_eq]; simp only [List.size_toArray]); omega)); k_whole); intro wh' wF' wN'; (try k_sweep)))
  k_with "call ref" => (((with_reducible first | show wpAny _ _ (call (Value.ref 180) _) _ _ _ | show wpAny _ _ (call (Value.ref 114) _) _ _ _ | show wpAny _ _ (call (Value.ref 166) _) _ _ _ | show wpAny _ _ (call (Value.ref 107) _) _ _ _ | show wpAny _ _ (call (Value.ref 173) _) _ _ _ | show wpAny _ _ (call (Value.ref 119) _) _ _ _ | show wpAny _ _ (call (Value.ref 206) _) _ _ _ | show wpAny _ _ (call (Value.ref 194) _) _ _ _ | show wpAny _ _ (call (Value.ref 145) _) _ _ _ | show wpAny _ _ (call (Value.ref 199) _) _ _ _); refine stopHere ?_))
  k_with "compareOp NotEq ref ref" => ((refine stopHere ?_))
  k_with "compareOp Eq ref ref" => ((refine stopHere ?_))
  k_with "binaryOp Add ref ref" => ((refine stopHere ?_))
  k_with "ite" => (first | (refine' ite_off ?c ?_; (case c => (simp only [beq_iff_eq, decide_eq_true_eq]; omega))) | (refine' ite_on ?c ?_; (case c => (simp only [beq_iff_eq, decide_eq_true_eq]; omega))))
  trivial
theorem chg_num {sort value : Int} {d : Dat} : (chg sort value d).num = d.num := by
  unfold chg; repeat' split
  all_goals rfl
theorem menu6_ok {k : Int} : CondOk (menu6 k) := by
  unfold menu6 CondOk
  repeat' split
  all_goals simp
theorem menu2_ok {k : Int} : CondOk (menu2 k) := by
  unfold menu2 CondOk
  repeat' split
  all_goals simp
theorem chg_good {sort value last : Int} {b b' : Nat} {it : Itm} (g : Good last b it) (hb : b ≤ b') : Good last b' { it with dat := chg sort value it.dat } := by
  have h6 := fmod_lt' value 4 (by decide)
  have h6' := fmod_ge value 4 (by decide)
  have h7 := fmod_lt' value 3 (by decide)
  have h7' := fmod_ge value 3 (by decide)
  have hh := g.hit1
  unfold chg
  repeat' split
  · exact ⟨g.cond, g.ign0, g.ign1, g.hit0, by show it.dat.hits ≤ (b' : Int); omega, g.num0, g.num1, g.len, g.cel⟩
  · exact ⟨menu6_ok, g.ign0, g.ign1, g.hit0, by show it.dat.hits ≤ (b' : Int); omega, g.num0, g.num1, g.len, g.cel⟩
  · exact ⟨g.cond, h6', by show Int.fmod value 4 < 10; omega, g.hit0, by show it.dat.hits ≤ (b' : Int); omega, g.num0, g.num1, g.len, g.cel⟩
  · exact ⟨menu2_ok, h7', by show Int.fmod value 3 < 10; omega, g.hit0, by show it.dat.hits ≤ (b' : Int); omega, g.num0, g.num1, g.len, g.cel⟩
set_option maxRecDepth 100000 in
set_option maxHeartbeats 8000000 in
theorem turn_change {I a c : Addr} {oI oc : Obj} {cd : Value} {W NA S D R RR : Addr} {items : List Itm} {i : Nat} {last : Int} {m₂ : Str → Option Value} {Ld : List (Addr × Obj)} {Q : Flow → Shared → Prop} {h₂ : Heap} {tk₂ : Nat} {sort which value one other : Int}
    (B : Below callerA h₀ [] h₀) (X : (hd.heap_39 w.params).In h₀) (T : TopM mean mg mb h₀) (hi : i < 14) (w0 : 0 ≤ which) (w1 : which < 5) (v0 : 0 ≤ value) (v1 : value < 12)
    (x : St w Ld [I, c] W NA S D R RR items (i + 1 + 1) i last) (hI : (I, oI) ∈ Ld) (hc : (c, oc) ∈ Ld) (hoc : ∃ v, oc.data = .cell v) (hm : Nm m₂ W S RR last) (hdn : Dn m₂ sort which value one other) (F : Fr h₀ L h₂ m₂) (N : News h₀ L h₂ Ld)
    (hs1 : 1 ≤ sort) (hs2 : sort < 5) (hne : items ≠ []) :
    wpAny (model prg w) (callerA.deeper (envLaw L a cd)) (execs (turnBody.drop 1) (envLaw L a cd)) (TurnG h₀ L (JL w c W NA S D (i + 1)) I oI s Q) E { s with heap := h₂, toks := tk₂ } := by
  unfold turnBody envLaw at *
  with_unfolding_all show wpAny _ (Around.deeper _ (envOfC _ (Scope.mk _ _ _ _ _) _ _ _)) (execs (_ :: _) (envOfC _ (Scope.mk _ _ _ _ _) _ _ _)) _ _ _
  refine hold fun H9 hH9 => ?_
  obtain ⟨tl, t1, t2, t3, t4, t5, em⟩ := Dn.eq hm hdn
  rw [em] at F
  obtain ⟨kRR, hRR⟩ := x.hRR
  have hS := x.hS
  obtain ⟨k0, k1, tq, nq, hD⟩ := x.hD
  obtain ⟨kR, hR⟩ := x.hR
  refine hH9 ?_
  clear hH9 H9
  have hlen := x.len
  have hpos : 0 < items.length := List.length_pos_iff.mpr hne
  have hsz : ((rxs items).size : Int) = items.length := by rw [rxs_size]
  have hszp : 0 < ((rxs items).size : Int) := by omega
  have hz0 : ¬ sort = 0 := by omega
  have hz5 : ¬ sort = 5 := by omega
  all_goals try k_fold
  k_steps
  unfold Halt
  rename Fr h₀ L _ _ => F1
  rename News h₀ L _ _ => N1
  rename Addr => Z
  refine eq_lists_short N1 (List.mem_cons_of_mem _ hRR) List.mem_cons_self (by rw [rxs_size, bne_iff_ne]; simpa using hne) (by show callerA.units + 3 < cLine; decide) ?_
  replace N1 := newsTail N1
  all_goals try k_fold
  k_steps
  dsimp only
  refine item_row N1 hRR (fmod_ge _ _ hszp) (by rw [← hsz]; exact fmod_lt' _ _ hszp) (by omega) ?_ (by with_unfolding_all rfl)
  intro it hit
  have hin := x.hall it hit
  have ha := hin.a
  refine hold fun H9 hH9 => ?_
  obtain ⟨kt, vt, n', hb⟩ := hin.b
  obtain ⟨ro, rvt, r1, r2, r3⟩ := hin.d
  refine hH9 ?_
  clear hH9 H9
  all_goals try k_fold
  k_steps
  unfold Halt
  rename Fr h₀ L _ _ => F2
  rename News h₀ L _ _ => N2
  refine numbered_spec B F2 X N2 T rfl rfl (by decide) hS hD hR x.hall ?_
  intro h3 tk3 F3 N3
  rw [x.find hit]
  dsimp only [foundV]
  clear F2 N2
  all_goals try k_fold
  k_steps
  unfold Halt
  have hnd := x.one it hit
  have hN4 : News h₀ L h3 ((it.rx, ro) :: (it.sx, instObj 82 it.sd) :: (it.sd, dictOf (stopEs w.params kt it.dat it.sp vt) n') :: del it.rx (del it.sd Ld)) := newsSub N3 (by
    exact sub_cons r1 (sub_cons ha (sub_cons hb fun q hq => del_in _ (del_in _ hq))))
  refine change_spec B (by assumption) X hN4 T rfl rfl (by decide) (Ne.symm (ad_sxr hnd)) (Ne.symm (ad_sdr hnd)) (ad_sxd hnd) (fun q hq => (mem_del.mp hq).2) (fun q hq => (mem_del.mp (mem_del.mp hq).1).2) r2 hs1 hs2 ?_
  intro h5 tk5 o5 t5 n5 tv5 F5 N5 hd5
  clear F3 N3 hN4
  have x5 := x.change (Ld' := (it.rx, o5) :: (it.sx, instObj 82 it.sd) :: (it.sd, dictOf (stopEs w.params kt (chg sort value it.dat) it.sp tv5) n5) :: del it.rx (del it.sd Ld)) hit (d := chg sort value it.dat) chg_num (b' := i + 1) (Nat.le_succ i) (chg_good (x.good it hit) (Nat.le_succ i)) List.mem_cons_self hd5
    (List.mem_cons_of_mem _ (List.mem_cons_of_mem _ List.mem_cons_self)) (fun q hq h1 h2 => .tail _ (.tail _ (.tail _ (mem_del.mpr ⟨mem_del.mpr ⟨hq, h2⟩, h1⟩))))
  all_goals try k_fold
  k_steps
  unfold Halt
  rename Fr h₀ L _ _ => F6
  rename News h₀ L _ _ => N6
  have hI5 : (I, oI) ∈ del it.rx (del it.sd Ld) := mem_del.mpr ⟨mem_del.mpr ⟨hI, (x.preItm hit (.head _)).2⟩, (x.preItm hit (.head _)).1⟩
  have hc5 : (c, oc) ∈ del it.rx (del it.sd Ld) := mem_del.mpr ⟨mem_del.mpr ⟨hc, (x.preItm hit (.tail _ (.head _))).2⟩, (x.preItm hit (.tail _ (.head _))).1⟩
  refine looks_at B X T F6 N6 x5 (by omega) ?_
  intro h7 tk7 F7 N7
  clear F6 N6
  all_goals try k_fold
  k_steps
  exact turn_end x5 (.tail _ (.tail _ (.tail _ hI5))) (.tail _ (.tail _ (.tail _ hc5))) hoc ⟨rfl, rfl, rfl, _, rfl⟩ (by assumption) (by assumption)
-- part C23
theorem askS_num {d : Dat} : (askS d).num = d.num := by
  unfold askS; split <;> rfl
theorem askS_good {last : Int} {b : Nat} {it : Itm} (g : Good last b it) : Good last (b + 1) { it with dat := askS it.dat } := by
  have h1 := g.hit1
  have h2 := g.hit0
  have h3 := g.ign0
  have h4 := g.ign1
  unfold askS
  split
  · exact ⟨g.cond, g.ign0, g.ign1, g.hit0, Int.le_trans h1 (Int.ofNat_le.mpr (Nat.le_succ b)), g.num0, g.num1, g.len, g.cel⟩
  · refine ⟨g.cond, ?_, ?_, by show 0 ≤ it.dat.hits + 1; omega, Int.add_le_add_right h1 1, g.num0, g.num1, g.len, g.cel⟩
    · show 0 ≤ if 0 < it.dat.ign then it.dat.ign - 1 else it.dat.ign
      split
      · exact Int.le_sub_one_of_lt (by assumption)
      · exact h3
    · show (if 0 < it.dat.ign then it.dat.ign - 1 else it.dat.ign) < 10
      split
      · exact Int.lt_of_le_of_lt (Int.sub_le_self _ (by decide)) h4
      · exact h4
set_option maxRecDepth 100000 in
set_option maxHeartbeats 8000000 in
theorem turn_asks {I a c : Addr} {oI oc : Obj} {cd : Value} {W NA S D R RR : Addr} {items : List Itm} {i : Nat} {last : Int} {m₂ : Str → Option Value} {Ld : List (Addr × Obj)} {Q : Flow → Shared → Prop} {h₂ : Heap} {tk₂ : Nat} {sort which value one other : Int}
    (B : Below callerA h₀ [] h₀) (X : (hd.heap_39 w.params).In h₀) (T : TopM mean mg mb h₀) (hi : i < 14) (w0 : 0 ≤ which) (w1 : which < 5) (v0 : 0 ≤ value) (v1 : value < 12)
    (x : St w Ld [I, c] W NA S D R RR items (i + 1 + 1) i last) (hI : (I, oI) ∈ Ld) (hc : (c, oc) ∈ Ld) (hoc : ∃ v, oc.data = .cell v) (hm : Nm m₂ W S RR last) (hdn : Dn m₂ sort which value one other) (F : Fr h₀ L h₂ m₂) (N : News h₀ L h₂ Ld)
    (hs1 : 6 ≤ sort) (hs2 : sort < 12) (hne : items ≠ []) :
    wpAny (model prg w) (callerA.deeper (envLaw L a cd)) (execs (turnBody.drop 1) (envLaw L a cd)) (TurnG h₀ L (JL w c W NA S D (i + 1)) I oI s Q) E { s with heap := h₂, toks := tk₂ } := by
  unfold turnBody envLaw at *
  with_unfolding_all show wpAny _ (Around.deeper _ (envOfC _ (Scope.mk _ _ _ _ _) _ _ _)) (execs (_ :: _) (envOfC _ (Scope.mk _ _ _ _ _) _ _ _)) _ _ _
  refine hold fun H9 hH9 => ?_
  obtain ⟨tl, t1, t2, t3, t4, t5, em⟩ := Dn.eq hm hdn
  rw [em] at F
  obtain ⟨kRR, hRR⟩ := x.hRR
  have hS := x.hS
  obtain ⟨k0, k1, tq, nq, hD⟩ := x.hD
  obtain ⟨kR, hR⟩ := x.hR
  refine hH9 ?_
  clear hH9 H9
  have hlen := x.len
  have hpos : 0 < items.length := List.length_pos_iff.mpr hne
  have hsz : ((rxs items).size : Int) = items.length := by rw [rxs_size]
  have hszp : 0 < ((rxs items).size : Int) := by omega
  have hz0 : ¬ sort = 0 := by omega
  have hz5 : ¬ sort = 5 := by omega
  have hz6 : ¬ sort < 5 := by omega
  k_steps
  unfold Halt
  rename Fr h₀ L _ _ => F1
  rename News h₀ L _ _ => N1
  rename Addr => Z
  refine eq_lists_short N1 (List.mem_cons_of_mem _ hRR) List.mem_cons_self (by rw [rxs_size, bne_iff_ne]; simpa using hne) (by show callerA.units + 3 < cLine; decide) ?_
  replace N1 := newsTail N1
  k_steps
  dsimp only
  refine item_row N1 hRR (fmod_ge _ _ hszp) (by rw [← hsz]; exact fmod_lt' _ _ hszp) (by omega) ?_ (by with_unfolding_all rfl)
  intro it hit
  have hin := x.hall it hit
  have ha := hin.a
  refine hold fun H9 hH9 => ?_
  obtain ⟨kt, vt, n', hb⟩ := hin.b
  obtain ⟨ro, rvt, r1, r2, r3⟩ := hin.d
  refine hH9 ?_
  clear hH9 H9
  k_steps
  unfold Halt
  rename Fr h₀ L _ _ => F2
  rename News h₀ L _ _ => N2
  have g := x.good it hit
  have hg1 := g.ign1
  have hg2 := g.hit1
  have hnd := x.one it hit
  have ofx : ∀ a ∈ R :: RR :: W :: NA :: S :: D :: [I, c], @Ne Nat a it.rx ∧ @Ne Nat a it.sd := fun b hb => x.fixItm hit hb
  refine asks_spec B F2 X (newsSub N2 (del_sub r1)) T rfl rfl (by decide) del_off r2 g.cond g.ign0 (by omega) g.hit0 (by omega) ?_
  intro h3 tk3 o3 t3 F3 N3 hd3
  clear F2 N2
  have ha3 : (it.sx, instObj 82 it.sd) ∈ (it.rx, o3) :: del it.rx Ld := List.mem_cons_of_mem _ (mem_del.mpr ⟨ha, (ad_sxr hnd)⟩)
  have hb3 : (it.sd, dictOf (stopEs w.params kt it.dat it.sp vt) n') ∈ (it.rx, o3) :: del it.rx Ld := List.mem_cons_of_mem _ (mem_del.mpr ⟨hb, (ad_sdr hnd)⟩)
  have hS3 : (S, instObj 148 D) ∈ (it.rx, o3) :: del it.rx Ld := List.mem_cons_of_mem _ (mem_del.mpr ⟨hS, (ofx S (.tail _ (.tail _ (.tail _ (.tail _ (.head _)))))).1⟩)
  have hD3 : (D, dictOf (stopsEs w.params k0 k1 R last tq) nq) ∈ (it.rx, o3) :: del it.rx Ld := List.mem_cons_of_mem _ (mem_del.mpr ⟨hD, (ofx D (.tail _ (.tail _ (.tail _ (.tail _ (.tail _ (.head _))))))).1⟩)
  have hR3 : (R, listOf (sxs items) kR) ∈ (it.rx, o3) :: del it.rx Ld := List.mem_cons_of_mem _ (mem_del.mpr ⟨hR, (ofx R (.head _)).1⟩)
  have hx3 : (it.rx, o3) ∈ (it.rx, o3) :: del it.rx Ld := List.mem_cons_self
  generalize hLd3 : (it.rx, o3) :: del it.rx Ld = Ld3 at *
  k_steps
  unfold Halt
  rename Fr h₀ L _ _ => F4
  rename News h₀ L _ _ => N4
  have hall3 : ∀ j ∈ items, (j.sx, instObj 82 j.sd) ∈ Ld3 ∧ ∃ kt vt n, (j.sd, dictOf (stopEs w.params kt j.dat j.sp vt) n) ∈ Ld3 := by
    intro j hj
    by_cases e : j.dat.num = it.dat.num
    · rw [x.nums j hj it hit e]; exact ⟨ha3, _, _, _, hb3⟩
    · obtain ⟨kt', vt', n'', hb'⟩ := (x.hall j hj).b
      rw [← hLd3]
      exact ⟨List.mem_cons_of_mem _ (mem_del.mpr ⟨(x.hall j hj).a, (x.twoItm hit hj e).1⟩), _, _, _, List.mem_cons_of_mem _ (mem_del.mpr ⟨hb', (x.twoItm hit hj e).2⟩)⟩
  refine numbered_spec2 B F4 X N4 T rfl rfl (by decide) hS3 hD3 hR3 hall3 ?_
  intro h5 tk5 F5 N5
  rw [askS_num, x.find hit]
  dsimp only [foundV]
  clear F4 N4
  k_steps
  unfold Halt
  rename Fr h₀ L _ _ => F6
  rename News h₀ L _ _ => N6
  have hN6 : News h₀ L _ ((it.sx, instObj 82 it.sd) :: (it.sd, dictOf (stopEs w.params kt it.dat it.sp vt) n') :: (S, instObj 148 D) :: (D, dictOf (stopsEs w.params k0 k1 R last tq) nq) :: del it.sd Ld3) := newsSub N6 (by
    exact sub_cons ha3 (sub_cons hb3 (sub_cons hS3 (sub_cons hD3 del_in))))
  refine asked_spec B F6 X hN6 T rfl rfl (by decide) X T (ad_sxd hnd) (fun q hq => by
    rcases List.mem_cons.mp hq with rfl | hq
    · exact (ofx S (.tail _ (.tail _ (.tail _ (.tail _ (.head _)))))).2
    rcases List.mem_cons.mp hq with rfl | hq
    · exact (ofx D (.tail _ (.tail _ (.tail _ (.tail _ (.tail _ (.head _))))))).2
    exact del_off q hq) g.cond g.ign0 (by omega) g.hit0 (by omega) ?_
  intro h7 tk7 tv7 n7 F7 N7
  clear hN6 F6 N6
  have hI3 : (I, oI) ∈ Ld3 := by rw [← hLd3]; exact List.mem_cons_of_mem _ (mem_del.mpr ⟨hI, (ofx I (.tail _ (.tail _ (.tail _ (.tail _ (.tail _ (.tail _ (.head _)))))))).1⟩)
  have hc3 : (c, oc) ∈ Ld3 := by rw [← hLd3]; exact List.mem_cons_of_mem _ (mem_del.mpr ⟨hc, (ofx c (.tail _ (.tail _ (.tail _ (.tail _ (.tail _ (.tail _ (.tail _ (.head _))))))))).1⟩)
  have hm7 : ∀ q ∈ Ld3, q.1 ≠ it.sd → q ∈ (it.sx, instObj 82 it.sd) :: (it.sd, dictOf (stopEs w.params kt (askS it.dat) it.sp tv7) n7) :: (S, instObj 148 D) :: (D, dictOf (stopsEs w.params k0 k1 R last tq) nq) :: del it.sd Ld3 := fun q hq hn => .tail _ (.tail _ (.tail _ (.tail _ (mem_del.mpr ⟨hq, hn⟩))))
  have hx7 := hm7 _ hx3 (Ne.symm (ad_sdr hnd))
  have hI7 := hm7 _ hI3 (ofx I (.tail _ (.tail _ (.tail _ (.tail _ (.tail _ (.tail _ (.head _)))))))).2
  have hc7 := hm7 _ hc3 (ofx c (.tail _ (.tail _ (.tail _ (.tail _ (.tail _ (.tail _ (.tail _ (.head _))))))))).2
  have hb7 : (it.sd, dictOf (stopEs w.params kt (askS it.dat) it.sp tv7) n7) ∈ (it.sx, instObj 82 it.sd) :: (it.sd, dictOf (stopEs w.params kt (askS it.dat) it.sp tv7) n7) :: (S, instObj 148 D) :: (D, dictOf (stopsEs w.params k0 k1 R last tq) nq) :: del it.sd Ld3 := List.mem_cons_of_mem _ List.mem_cons_self
  have ha7 : (it.sx, instObj 82 it.sd) ∈ (it.sx, instObj 82 it.sd) :: (it.sd, dictOf (stopEs w.params kt (askS it.dat) it.sp tv7) n7) :: (S, instObj 148 D) :: (D, dictOf (stopsEs w.params k0 k1 R last tq) nq) :: del it.sd Ld3 := List.mem_cons_self
  generalize hLd7 : (it.sx, instObj 82 it.sd) :: (it.sd, dictOf (stopEs w.params kt (askS it.dat) it.sp tv7) n7) :: (S, instObj 148 D) :: (D, dictOf (stopsEs w.params k0 k1 R last tq) nq) :: del it.sd Ld3 = Ld7 at *
  have x7 := x.change (Ld' := Ld7) hit (d := askS it.dat) askS_num (b' := i + 1) (Nat.le_succ i) (askS_good g) hx7 hd3 hb7 (fun q hq h1 h2 => hm7 _ (by rw [← hLd3]; exact List.mem_cons_of_mem _ (mem_del.mpr ⟨hq, h1⟩)) h2)
  k_steps
  · rename (_ != _) = true => e9
    simp at e9
  unfold Halt
  refine told_spec B (by assumption) X N7 T rfl rfl (by decide) ha7 hb7 ?_
  intro h8 tk8 D8 o8 F8 N8 l8 q8 i8
  k_steps
  unfold Halt
  refine hold fun H9 hH9 => ?_
  obtain ⟨v1, c1, p1, p2⟩ := hin.c
  obtain ⟨v2, c2, p3, p4⟩ := hin.e
  refine hH9 ?_
  clear hH9 H9
  have p1' := hm7 _ (by rw [← hLd3]; exact List.mem_cons_of_mem _ (mem_del.mpr ⟨p1, (ad_spr hnd)⟩)) (Ne.symm (ad_sdp hnd))
  have p3' := hm7 _ (by rw [← hLd3]; exact List.mem_cons_of_mem _ (mem_del.mpr ⟨p3, Ne.symm (ad_rq hnd)⟩)) (Ne.symm (ad_sdq hnd))
  refine rows_same N8 List.mem_cons_self (List.mem_cons_of_mem _ hx7) i8 hd3 q8 r3 (List.mem_cons_of_mem _ p1') (List.mem_cons_of_mem _ p3') p2 p4 (by show callerA.units + 3 + 128 < cLine; decide) ?_
  k_steps
  unfold Halt
  rename Fr h₀ L _ _ => F9
  refine looks_at B X T F9 (newsTail N8) x7 (by omega) ?_
  intro h10 tk10 F10 N10
  clear F9 N8
  k_steps
  exact turn_end x7 hI7 hc7 hoc ⟨rfl, rfl, rfl, _, rfl⟩ (by assumption) (by assumption)
-- part C24
theorem words_C24 : True := by
  k_with_none
  k_with "spliced" => (refine args_nil ?_; (try dsimp only [List.cons_append, List.nil_append]))
  k_with "mem" => ((refine memL ?_); with_reducible assumption)
  k_with "all" => (first | with_reducible assumption | exact Mine.neAll (by with_reducible assumption) | fail "mine")
  k_with "put" => (first | exact put_last | exact put_rows | exact put_cond | exact put_ign | exact put_hits | exact put_on | exact put_trb | fail "mine")
  k_with "room" => (first | exact Mine.rm 0 (by exact rfl) (by with_reducible assumption) (by exact rfl) | exact Mine.rm 1 (by exact rfl) (by with_reducible assumption) (by exact rfl) | exact Mine.rm 2 (by exact rfl) (by with_reducible assumption) (by exact rfl) | exact Mine.rm 3 (by exact rfl) (by with_reducible assumption) (by exact rfl) | exact Mine.rm 4 (by exact rfl) (by with_reducible assumption) (by exact rfl) | (simp only [depth_under_make, depth_under_kw, depth_in1, depth_deeper, recursionLimit]; omega))
  k_with "size" => (first | with_reducible assumption | with_reducible exact Mine.sz0 | with_reducible exact Mine.sz1 | with_reducible exact Mine.sz2 | with_reducible exact Mine.sz3 | with_reducible exact Mine.sz4 | with_reducible exact Mine.sz5 | with_reducible exact Mine.sz6 | exact Mine.sz_lt (by with_reducible assumption) (by exact rfl) | exact Mine.sz_le (by with_reducible assumption) (by exact rfl) | fail "mine")
  k_with "lt" => ((rename AllLt _ _ => hlt9); (try dsimp only [AllLt] at hlt9); (try simp only [and_true] at hlt9); (try first | (have hz8 := AllLt.lt (hlt9)) | (have hz8 := AllLt.lt (hlt9).2) | (have hz8 := AllLt.lt (hlt9).2.2) | (have hz8 := AllLt.lt (hlt9).2.2.2) | (have hz8 := AllLt.lt (hlt9).2.2.2.2) | (have hz8 := AllLt.lt (hlt9).2.2.2.2.2) | (have hz8 := AllLt.lt (hlt9).2.2.2.2.2.2) | (have hz8 := AllLt.lt (hlt9).2.2.2.2.2.2.2) | (have hz8 := AllLt.lt (hlt9).2.2.2.2.2.2.2.2) | (have hz8 := AllLt.lt (hlt9).2.2.2.2.2.2.2.2.2) | (have hz8 := AllLt.lt (hlt9).2.2.2.2.2.2.2.2.2.2) | (have hz8 := AllLt.lt (hlt9).2.2.2.2.2.2.2.2.2.2.2) | (have hz8 := AllLt.lt (hlt9).2.2.2.2.2.2.2.2.2.2.2.2)))
  k_with "ltc" => (first | with_reducible assumption | exact And.left (by with_reducible assumption) | exact And.left (And.right (by with_reducible assumption)) | exact And.left (And.right (And.right (by with_reducible assumption))) | exact And.left (And.right (And.right (And.right (by with_reducible assumption)))) | exact And.left (And.right (And.right (And.right (And.right (by with_reducible assumption))))) | exact And.left (And.right (And.right (And.right (And.right (And.right (by with_reducible assumption)))))) | exact And.left (And.right (And.right (And.right (And.right (And.right (And.right (by with_reducible assumption))))))) | exact And.left (And.right (And.right (And.right (And.right (And.right (And.right (And.right (by with_reducible assumption)))))))) | exact And.left (And.right (And.right (And.right (And.right (And.right (And.right (And.right (And.right (by with_reducible assumption))))))))) | exact And.left (And.right (And.right (And.right (And.right (And.right (And.right (And.right (And.right (And.right (by with_reducible assumption)))))))))) | exact And.right (by with_reducible assumption) | exact And.right (And.right (by with_reducible assumption)) | exact And.right (And.right (And.right (by with_reducible assumption))) | exact And.right (And.right (And.right (And.right (by with_reducible assumption)))) | exact And.right (And.right (And.right (And.right (And.right (by with_reducible assumption))))) | exact And.right (And.right (And.right (And.right (And.right (And.right (by with_reducible assumption)))))) | exact And.right (And.right (And.right (And.right (And.right (And.right (And.right (by with_reducible assumption))))))) | exact And.right (And.right (And.right (And.right (And.right (And.right (And.right (And.right (by with_reducible assumption)))))))) | exact And.right (And.right (And.right (And.right (And.right (And.right (And.right (And.right (And.right (by with_reducible assumption))))))))) | fail "mine")
  k_with "ne" => (first | k_extra "ltc" | ((with_reducible refine' Ne.symm ?_); k_extra "ltc") | ((with_reducible refine' Nat.ne_of_gt ?_); k_extra "ltc") | ((with_reducible refine' Nat.ne_of_lt ?_); k_extra "ltc") | ((with_reducible refine' Nat.ne_of_gt (Nat.lt_succ_of_lt ?_)); k_extra "ltc") | fail "mine")
  k_with "omega" => (first | k_extra "ltc" | with_reducible decide | k_extra "ne" | k_extra "bd" | fail "mine")
  k_with "bd" => (first | with_reducible exact Mine.p7 | ((with_reducible refine' Mine.o1 ?oh ?oe); (case oh => with_reducible assumption); (case oe => exact rfl)) | ((with_reducible refine' Mine.o2 ?oh ?oe); (case oh => with_reducible assumption); (case oe => exact rfl)) | ((with_reducible refine' Mine.o3 ?oh ?oe); (case oh => with_reducible assumption); (case oe => exact rfl)) | ((with_reducible refine' Mine.o4 ?oh ?oe); (case oh => with_reducible assumption); (case oe => exact rfl)) | ((with_reducible refine' Mine.o5 ?oh ?oe); (case oh => with_reducible assumption); (case oe => exact rfl)) | ((with_reducible refine' Mine.o6 ?oh ?oe); (case oh => with_reducible assumption); (case oe => exact rfl)) | ((with_reducible refine' Mine.o7 ?oh ?oe); (case oh => with_reducible assumption); (case oe => exact rfl)) | ((with_reducible refine' Mine.p1 ?oh ?oe); (case oh => with_reducible assumption); (case oe => exact rfl)) | ((with_reducible refine' Mine.p4 ?oh ?oe); (case oh => with_reducible assumption); (case oe => exact rfl)) | ((with_reducible refine' Mine.p6 ?oh ?oe); (case oh => with_reducible assumption); (case oe => exact rfl)) | ((with_reducible refine' Mine.r6 ?oh ?oe); (case oh => with_reducible assumption); (case oe => exact rfl)) | ((with_reducible refine' Mine.r13 ?oh ?oe); (case oh => with_reducible assumption); (case oe => exact rfl)) | ((with_reducible refine' Mine.r14 ?oh ?oe); (case oh => with_reducible assumption); (case oe => exact rfl)) | ((with_reducible refine' Mine.r15 ?oh ?oe); (case oh => with_reducible assumption); (case oe => exact rfl)) | ((with_reducible refine' Mine.r18 ?oh ?oe); (case oh => with_reducible assumption); (case oe => exact rfl)) | ((with_reducible refine' Mine.r19 ?oh ?oe); (case oh => with_reducible assumption); (case oe => exact rfl)) | ((with_reducible refine' Mine.r20 ?oh ?oe); (case oh => with_reducible assumption); (case oe => exact rfl)) | ((with_reducible refine' Mine.r21 ?oh ?oe); (case oh => with_reducible assumption); (case oe => exact rfl)) | ((with_reducible refine' Mine.o8 ?og ?oh ?oe); (case og => with_reducible assumption); (case oh => with_reducible assumption); (case oe => exact rfl)) | ((with_reducible refine' Mine.o9 ?og ?oh ?oe); (case og => with_reducible assumption); (case oh => with_reducible assumption); (case oe => exact rfl)) | ((with_reducible refine' Mine.p5 ?og ?oh ?oe); (case og => with_reducible assumption); (case oh => with_reducible assumption); (case oe => exact rfl)) | ((with_reducible refine' Mine.r5 ?og ?oh ?oe); (case og => with_reducible assumption); (case oh => with_reducible assumption); (case oe => exact rfl)) | ((with_reducible refine' Mine.r1 ?og ?oh); (case og => with_reducible assumption); (case oh => with_reducible assumption)) | ((with_reducible refine' Mine.r3 ?og ?oh); (case og => with_reducible assumption); (case oh => with_reducible assumption)) | ((with_reducible refine' Nat.le_trans ?og ?oh); (case og => with_reducible assumption); (case oh => with_reducible assumption)) | ((with_reducible refine' Mine.r22 ?oh); (case oh => with_reducible assumption)) | ((with_reducible refine' Mine.r23 ?oh); (case oh => with_reducible assumption)) | ((with_reducible refine' Mine.big_lo ?oh); (case oh => with_reducible assumption)) | ((with_reducible refine' Mine.big_hi ?oh); (case oh => with_reducible assumption)) | ((with_reducible refine' Mine.big_ten ?oh); (case oh => with_reducible assumption)) | ((with_reducible refine' Int.ne_of_gt ?_); k_extra "ltc") | ((with_reducible refine' Int.le_of_lt ?_); k_extra "ltc") | with_reducible exact Int.le_refl _ | with_reducible exact Nat.le_succ _ | with_reducible exact Nat.zero_add _ | fail "mine")
  k_with "call builtin:sorted" => ((k_here; (refine' sorted_led ?F ?N ?m ?i ?b ?_; (case F => k_asm); (case N => k_asm); (case m => k_mem); (case i => k_asm); (case b => k_asm); k_whole); intro wD' wvs' wc' wh' wF' wN' wl1' wi'; (try k_lt wl1'); (try dsimp only)))
  k_with "TurnG" => (first | ((with_reducible show TurnG _ _ _ _ _ _ _ (Flow.ret _) _); dsimp only [TurnG]) | ((with_reducible show TurnG _ _ _ _ _ _ _ Flow.brk _); dsimp only [TurnG]))
  k_with "exec Assign cons ListComp" => ((k_here; k_dflt (first
  | (refine LCt.Assign_ListComp_T (F₀ := by k_asm) (by rfl) (by with_unfolding_all rfl) (by with_unfolding_all rfl) (by decide) (by rfl) (by decide) (by rfl) (by rfl) (by rfl) ?_)
  | (refine LCg.Assign_ListComp_U (F₀ := by k_asm) (by rfl) (by with_unfolding_all rfl) (by with_unfolding_all rfl) (by decide) (by rfl) (by decide) (by rfl) (by rfl) (by rfl) ?_))))
  k_with "eval ListComp" => ((k_here; k_dflt (first
  | (refine LCt.ListComp_T (F₀ := by k_asm) (by with_unfolding_all rfl) (by decide) (by rfl) (by decide) (by rfl) ?_)
  | (refine LCg.ListComp_U (F₀ := by k_asm) (by with_unfolding_all rfl) (by decide) (by rfl) (by decide) (by rfl) ?_))))
  k_with "CompSrcT" => (fail "mine: by hand")
  k_with "CompSrc" => (fail "mine: by hand")
  k_with "call builtin:len" => ((k_here; k_dflt (refine' len_led ?N ?m ?b ?_; (case N => k_asm); (case m => k_mem); (case b => first | omega | ((simp only [sxs_size, rxs_size, List.size_toArray, List.length_map, Array.size_push]); omega)); k_whole)))
  k_with "compareOp In int ref" => ((k_here; k_dflt (refine' in_led ?N ?m ?i ?_; (case N => k_asm); (case m => k_mem); (case i => k_asm); k_whole)))
  k_with "compareOp NotIn int ref" => ((k_here; k_dflt (refine' notin_led ?N ?m ?i ?_; (case N => k_asm); (case m => k_mem); (case i => k_asm); k_whole)))
  k_with "setItem ref int" => ((k_here; k_dflt (refine' kda_set (knd := PySem.intKind _ _) ?F ?N ?U ?d (intKind_is _ _ _ _) ?z ?_; (case F => k_asm); (case N => k_asm); (case U => k_updF); (case d => k_asm); (case z => k_asm)); intro wh' wo' wF' wN' whd'; (try dsimp only at wN'); (try k_sweep); (try dsimp only)))
  k_with "setItem ref str" => ((k_here; k_dflt (refine' kda_set (knd := PySem.strKind _ _) ?F ?N ?U ?d (strKind_is _ _ _ _) ?z ?_; (case F => k_asm); (case N => k_asm); (case U => k_updF); (case d => k_asm); (case z => rw [sizeLine_eq]; exact Nat.le_of_ble_eq_true (by with_unfolding_all rfl))); intro wh' wo' wF' wN' whd'; (try first | rw [stored_cond] at whd' | rw [stored_ign] at whd' | rw [stored_hits] at whd' | rw [stored_on] at whd' | rw [stored_trb] at whd'); (try dsimp only at whd'); (try dsimp only at wN'); (try k_sweep); (try dsimp only)))
  k_with "subscriptTail Name" => ((k_here; (with_reducible show wpAny _ _ (subscriptTail _ _ (Value.ref _) (Value.str _ _)) _ _ _); k_dflt (refine kda_item (knd := PySem.strKind _ _) (by k_asm) (by k_mem) (by k_asm) (strKind_is _ _ _ _) (by rfl) ?_); (try dsimp only)))
  k_with "getItem ref str" => ((k_here; k_dflt (refine kdt_getItem (knd := PySem.strKind _ _) (by k_asm) (by k_mem) (by k_asm) (strKind_is _ _ _ _) (by rfl) ?_); (try dsimp only)))
  k_with "subscriptTail" => ((k_here; (with_reducible show wpAny _ _ (subscriptTail _ _ (Value.ref _) (Value.int _ _)) _ _ _); k_dflt (first
  | (refine' item_menu menu6 6 ?N ?m ?a ?b ?c (menu6_at _ _ _ _ _ _) ?_ (by with_unfolding_all rfl); (case N => k_asm); (case m => k_mem); (case a => exact fmod_ge _ _ (by decide)); (case b => exact fmod_lt' _ _ (by decide)); (case c => decide); k_whole)
  | (refine' item_menu menu2 2 ?N ?m ?a ?b ?c (menu2_at _ _) ?_ (by with_unfolding_all rfl); (case N => k_asm); (case m => k_mem); (case a => exact fmod_ge _ _ (by decide)); (case b => exact fmod_lt' _ _ (by decide)); (case c => decide); k_whole)
  | (refine' item_menu kindOf 2 ?N ?m ?a ?b ?c (kinds_at _ _) ?_ (by with_unfolding_all rfl); (case N => k_asm); (case m => k_mem); (case a => exact fmod_ge _ _ (by decide)); (case b => exact fmod_lt' _ _ (by decide)); (case c => decide); k_whole)); intro wtz'; (try dsimp only)))
  k_with "subscriptTail Name Name" => ((k_here; (with_reducible show wpAny _ _ (subscriptTail _ _ (Value.ref _) (Value.int _ _)) _ _ _); k_dflt (refine' item_int ?N ?m ?i ?a ?b ?c ?_ (by with_unfolding_all rfl); (case N => k_asm); (case m => k_mem); (case i => k_asm); (case a => omega); (case b => first | omega | (simp only [List.size_toArray] at *; omega)); (case c => omega); k_whole); intro wtz' whz'; (try dsimp only)))
  k_with "eval Name" => ((k_here; k_dflt (refine' ld ?k1 ?k2 ?_; (case k1 => k_asm); (case k2 => assumption); k_whole)))
  k_with "call builtin:list.append" => ((k_here; (with_reducible show wpAny _ _ (call (Value.builtin _) [Value.ref _, _]) _ _ _); k_dflt (refine' append_K ?k1 ?k2 ?k3 ?_ ?z; (case k1 => k_asm); (case k2 => k_asm); (case k3 => k_upd); (case z => first | size_fits | ((rw [sizeLine_eq]; simp only [List.size_toArray]); omega)); k_whole); intro wh' wF' wN'; (try k_sweep)))
  k_with "call ref" => (((with_reducible first | show wpAny _ _ (call (Value.ref 180) _) _ _ _ | show wpAny _ _ (call (Value.ref 114) _) _ _ _ | show wpAny _ _ (call (Value.ref 166) _) _ _ _ | show wpAny _ _ (call (Value.ref 107) _) _ _ _ | show wpAny _ _ (call (Value.ref 173) _) _ _ _ | show wpAny _ _ (call (Value.ref 119) _) _ _ _ | show wpAny _ _ (call (Value.ref 206) _) _ _ _ | show wpAny _ _ (call (Value.ref 194) _) _ _ _ | show wpAny _ _ (call (Value.ref 145) _) _ _ _ | show wpAny _ _ (call (Value.ref 199) _) _ _ _); refine stopHere ?_))
  k_with "compareOp NotEq ref ref" => ((refine stopHere ?_))
  k_with "compareOp Eq ref ref" => ((refine stopHere ?_))
  k_with "binaryOp Add ref ref" => ((refine stopHere ?_))
  k_with "ite" => (first | (refine' ite_off ?c ?_; (case c => (simp only [beq_iff_eq, decide_eq_true_eq]; omega))) | (refine' ite_on ?c ?_; (case c => (simp only [beq_iff_eq, decide_eq_true_eq]; omega))))
  k_with "execs cons Assign cons" => (((with_reducible show wpAny _ _ (execs (Stmt.Assign [Expr.Name (PySem.Str.ofString "left") _] _ _ :: _) _) _ _ _); refine stopHere ?_))
  k_with "eval Name" => ((k_here; k_dflt (first | ((with_reducible show wpAny _ _ (eval (Expr.Name (PySem.Str.ofString "mark") _) (envOfC _ _ _ _ _)) _ _ _); (refine' nameX_C ?N ?c ?m ?d ?_ ?a ?b; (case a => rfl); (case b => rfl); (case N => k_asm); (case c => rfl); (case m => k_mem); (case d => k_asm); k_whole)) | ((with_reducible show wpAny _ _ (eval (Expr.Name (PySem.Str.ofString "mark") _) (compEnvC _ _ _ _)) _ _ _); refine kcf_cell (by k_asm) (by rfl) (by k_mem) (by k_asm) ?_))))
  trivial
theorem ex_cell {o : Obj} {z : Int} {t : Tok} (h : o.data = .cell (some (.int z t))) : ∃ z t, o.data = .cell (some (Value.int z t)) := ⟨z, t, h⟩
section
variable {Ld Ld' : List (Addr × Obj)} {pre : List Addr} {W NA S D R RR : Addr} {items : List Itm} {p b : Nat} {last : Int}
theorem St.poke (x : St w Ld pre W NA S D R RR items p b last) {z : Addr} {o : Obj} (hz : z ∈ pre) (h : (z, o) ∈ Ld') (hd : ∀ q ∈ Ld, q.1 ≠ z → q ∈ Ld') : St w Ld' pre W NA S D R RR items p b last := by
  have hn := x.fix
  have hne : ∀ a ∈ [R, RR, W, NA, S, D], a ≠ z := by
    have h1 : ([R, RR, W, NA, S, D] ++ pre).Nodup := hn
    rw [List.nodup_append] at h1
    exact fun a ha => h1.2.2 a ha z hz
  refine ⟨hn, x.one, x.off, x.two, x.nums, ?_, ?_, hd _ x.hS (hne _ (by simp)), ?_, ?_, ?_, ?_, ?_, x.good, x.len, x.l0, x.l1⟩
  · obtain ⟨a, b, c, d, e, f⟩ := x.hW; exact ⟨a, b, c, d, hd _ e (hne _ (by simp)), f⟩
  · obtain ⟨a, b, c, e, f⟩ := x.hNA; exact ⟨a, b, c, hd _ e (hne _ (by simp)), f⟩
  · obtain ⟨a, b, c, d, e⟩ := x.hD; exact ⟨a, b, c, d, hd _ e (hne _ (by simp))⟩
  · obtain ⟨a, e⟩ := x.hR; exact ⟨a, hd _ e (hne _ (by simp))⟩
  · obtain ⟨a, e⟩ := x.hRR; exact ⟨a, hd _ e (hne _ (by simp))⟩
  · intro a ha
    by_cases e : a = z
    · exact ⟨o, e ▸ h⟩
    · obtain ⟨o, e'⟩ := x.pin a ha; exact ⟨o, hd _ e' e⟩
  · intro i hi
    exact (x.hall i hi).subBut fun q hq hm => hd q hq fun e => x.off i hi _ hm (by rw [e]; simp [hz])
end
noncomputable def ifElse (s : Option Stmt) : List Stmt := match s with | some (.If _ _ b _) => b | _ => []
noncomputable abbrev delBody : List Stmt := ifBody (ifElse turnBody[1]?)[0]?
set_option maxRecDepth 100000 in
set_option maxHeartbeats 8000000 in
theorem del_rest {I a : Addr} {oI oc : Obj} {cd : Value} {W NA S D R RR : Addr} {items : List Itm} {i : Nat} {last z : Int} {tz : Tok} {m₂ : Str → Option Value} {Le : List (Addr × Obj)} {Q : Flow → Shared → Prop}
    (B : Below callerA h₀ [] h₀) (X : (hd.heap_39 w.params).In h₀) (T : TopM mean mg mb h₀) (hi : i < 14)
    (x2 : St w ((L + 1, oc) :: Le) [I, L + 1] W NA S D R RR items (i + 1 + 1) i last) (hI2 : (I, oI) ∈ Le) (hoff2 : ∀ q ∈ Le, q.1 ≠ L + 1) (hcc : oc.data = .cell (some (.int z tz))) (hm : Nm m₂ W S RR last) (F : Fr h₀ L s.heap m₂) (N : News h₀ L s.heap ((L + 1, oc) :: Le))
    (k : ∀ m' R' RR' items' Ld' oc' h' tk, Fr h₀ L h' m' → News h₀ L h' Ld' → St w Ld' [I, L + 1] W NA S D R' RR' items' (i + 1 + 1) (i + 1) last → (I, oI) ∈ Ld' → (L + 1, oc') ∈ Ld' → (∃ v, oc'.data = .cell v) → Nm m' W S RR' last → Q .next { s with heap := h', toks := tk }) :
    wpAny (model prg w) (callerA.deeper (envLaw L a cd)) (execs (delBody.drop 1) (envLaw L a cd)) Q E s := by
  unfold delBody turnBody envLaw at *
  with_unfolding_all show wpAny _ (Around.deeper _ (envOfC _ (Scope.mk _ _ _ _ _) _ _ _)) (execs (List.drop 1 (_ :: _)) (envOfC _ (Scope.mk _ _ _ _ _) _ _ _)) _ _ _
  obtain ⟨tl, em4⟩ := hm.eq
  rw [em4] at F
  have hlen := x2.len
  have hLfix' : ∀ a ∈ R :: RR :: W :: NA :: S :: D :: [I], @Ne Nat a (L + 1) := by
    have h1 : (R :: RR :: W :: NA :: S :: D :: [I, L + 1]).Perm ((L + 1) :: R :: RR :: W :: NA :: S :: D :: [I]) := (List.perm_middle (l₁ := [R, RR, W, NA, S, D, I]) (a := L + 1) (l₂ := []))
    exact fun a ha e => (List.nodup_cons.mp (h1.nodup_iff.mp x2.fix)).1 (e ▸ ha)
  have tailOf : ∀ {b : Addr} {o : Obj}, (b, o) ∈ (L + 1, oc) :: Le → @Ne Nat b (L + 1) → (b, o) ∈ Le := fun hq hn => by
    rcases List.mem_cons.mp hq with e | hq
    · exact absurd (congrArg Prod.fst e) hn
    · exact hq
  refine hold fun H9 hH9 => ?_
  obtain ⟨kRR, hRR⟩ := x2.hRR
  obtain ⟨k0, k1, tq, nq, hD⟩ := x2.hD
  obtain ⟨kR, hR⟩ := x2.hR
  refine hH9 ?_
  clear hH9 H9
  have hRR2 := tailOf hRR (hLfix' RR (.tail _ (.head _)))
  have hS2 := tailOf x2.hS (hLfix' S (.tail _ (.tail _ (.tail _ (.tail _ (.head _))))))
  have hD2 := tailOf hD (hLfix' D (.tail _ (.tail _ (.tail _ (.tail _ (.tail _ (.head _)))))))
  have hR2 := tailOf hR (hLfix' R (.head _))
  have hall2 : ∀ j ∈ items, ItmIn w Le j := fun j hj => (x2.hall j hj).subBut fun q hq hm => tailOf hq fun e => x2.off j hj _ hm (by rw [show q.1 = L + 1 from e]; exact .tail _ (.tail _ (.tail _ (.tail _ (.tail _ (.tail _ (.tail _ (.head _))))))))
  clear hRR hD hR tailOf
  k_steps
  rename Fr h₀ L _ _ => F2
  rename News h₀ L _ _ => N2
  refine LCt.CompSrcT.ledger (its := rxs items) rfl F2 N2 (List.mem_cons_of_mem _ hRR2) (by rw [rxs_size, sizeLine_eq]; omega) ?_
  intro g2
  refine compT_all (fun q => (((items.take q).filter (fun j => decide (j.dat.num ≠ z))).map (fun j => Value.ref j.rx))) (by simp) ?_ ?_
  · intro q v I2 oI2 C oC D' m₂ h1 tk1 E' hq hv hC hx F3 N3 off2 ne
    obtain ⟨it2, hit2, rfl⟩ := rxs_at hv
    have hin2 := hall2 it2 (List.mem_of_getElem? hit2)
    refine hold fun H9 hH9 => ?_
    obtain ⟨ro2, rvt2, r12, r22, r32⟩ := hin2.d
    refine hH9 ?_
    clear hH9 H9
    clear F2 N2
    k_steps
    · rename it2.dat.num ≠ z => q1
      refine ⟨_, _, _, rfl, by assumption, by assumption, off2, .inr ⟨_, List.mem_cons_of_mem _ hRR2, rfl, _, rfl⟩, rfl, ?_⟩
      simp [List.take_add_one, hit2, q1]
    · rename it2.dat.num = z => q1
      refine ⟨_, _, _, rfl, by assumption, by assumption, off2, .inr ⟨_, List.mem_cons_of_mem _ hRR2, rfl, _, rfl⟩, rfl, ?_⟩
      simp [List.take_add_one, hit2, q1]
  · try dsimp only
    intro D2 h5 tk5 F5 N5 o5
    clear F2 N2
    rw [rxs_size, List.take_length] at N5
    rename Obj => o9
    have N6 : News h₀ L h5 ((D2, listOf (rxs (items.filter (fun j => decide (j.dat.num ≠ z)))) (items.filter (fun j => decide (j.dat.num ≠ z))).length) :: (L + 1, o9) :: Le) := by
      have e : LCg.lst ((items.filter (fun j => decide (j.dat.num ≠ z))).map fun j => Value.ref j.rx) = listOf (rxs (items.filter (fun j => decide (j.dat.num ≠ z)))) (items.filter (fun j => decide (j.dat.num ≠ z))).length := by simp [LCg.lst, rxs]
      rw [← e]; exact N5
    clear N5
    have hfl := List.length_filter_le (fun j : Itm => decide (j.dat.num ≠ z)) items
    have o6 := off1_mem o5
    have x3 : St w ((D2, listOf (rxs (items.filter (fun j => decide (j.dat.num ≠ z)))) (items.filter (fun j => decide (j.dat.num ≠ z))).length) :: (L + 1, o9) :: Le) [I, L + 1] W NA S D R RR items (i + 1 + 1) i last :=
      (x2.poke (Ld' := (L + 1, o9) :: Le) (z := L + 1) (by simp) List.mem_cons_self (fun q hq hn => by
        rcases List.mem_cons.mp hq with rfl | hq
        · exact absurd rfl hn
        · exact List.mem_cons_of_mem _ hq)).sub fun q hq => List.mem_cons_of_mem _ hq
    have hD2D : @Ne Nat D2 D := Ne.symm (o6 _ (List.mem_cons_of_mem _ hD2))
    have hLD : @Ne Nat (L + 1) D := Ne.symm (hLfix' D (.tail _ (.tail _ (.tail _ (.tail _ (.tail _ (.head _)))))))
    have hSD : @Ne Nat S D := x3.nsd
    k_steps
    unfold Halt
    rename Fr h₀ L _ _ => F7
    rename News h₀ L _ _ => N7
    refine delete_spec (S := S) (D := D) (R := R) (k0 := k0) (k1 := k1) (last := last) (tq := tq) (n := nq) (z := z) (items := items) (k := kR) (rest := (D2, listOf (rxs (items.filter (fun j => decide (j.dat.num ≠ z)))) (items.filter (fun j => decide (j.dat.num ≠ z))).length) :: (L + 1, o9) :: del D Le) B F7 X (newsSub N7 ?_) T rfl rfl (by decide) hSD ?_ (List.mem_cons_of_mem _ (List.mem_cons_of_mem _ (mem_del.mpr ⟨hR2, x3.nrd⟩))) ?_ (by omega) ?_
    · intro q hq
      simp only [List.mem_cons, mem_del] at hq ⊢
      rcases hq with rfl | rfl | rfl | rfl | hq
      · exact .inr (.inr hS2)
      · exact .inr (.inr hD2)
      · exact .inl rfl
      · exact .inr (.inl rfl)
      · exact .inr (.inr hq.1)
    · intro q hq
      simp only [List.mem_cons, mem_del] at hq
      rcases hq with rfl | rfl | hq
      · exact hD2D
      · exact hLD
      · exact hq.2
    · intro j hj
      exact (hall2 j hj).subBut fun q hq hm => List.mem_cons_of_mem _ (List.mem_cons_of_mem _ (mem_del.mpr ⟨hq, fun e => x2.off j hj _ hm (by rw [e]; simp)⟩))
    · intro h8 tk8 D8 c8 F8 N8 hSD8 hDD8 hr8
      clear F7 N7
      have x4 : St w ((L + 1, o9) :: Le) [I, L + 1] W NA S D R RR items (i + 1 + 1) i last :=
        (x2.poke (Ld' := (L + 1, o9) :: Le) (z := L + 1) (by simp) List.mem_cons_self (fun q hq hn => by
        rcases List.mem_cons.mp hq with rfl | hq
        · exact absurd rfl hn
        · exact List.mem_cons_of_mem _ hq))
      have x8 := x4.delete (Ld' := (D8, listOf (sxs (items.filter (fun j => decide (j.dat.num ≠ z)))) c8) :: (S, instObj 148 D) :: (D, dictOf (stopsEs w.params k0 k1 D8 last tq) nq) :: (D2, listOf (rxs (items.filter (fun j => decide (j.dat.num ≠ z)))) (items.filter (fun j => decide (j.dat.num ≠ z))).length) :: (L + 1, o9) :: del D Le) (z := z) List.mem_cons_self
        (List.mem_cons_of_mem _ (List.mem_cons_of_mem _ List.mem_cons_self)) (List.mem_cons_of_mem _ (List.mem_cons_of_mem _ (List.mem_cons_of_mem _ List.mem_cons_self)))
        (fun q hq => by
          simp only [List.mem_cons] at hq
          rcases hq with rfl | hq
          · exact hr8 _ (List.mem_cons_of_mem _ List.mem_cons_self)
          · by_cases e : q.1 = D
            · rw [e]; exact hDD8
            · exact hr8 _ (List.mem_cons_of_mem _ (List.mem_cons_of_mem _ (mem_del.mpr ⟨hq, e⟩))))
        o6 (Ne.symm (hr8 _ List.mem_cons_self))
        (fun q hq hn => by
          simp only [List.mem_cons, mem_del] at hq ⊢
          rcases hq with rfl | hq
          · exact .inr (.inr (.inr (.inr (.inl rfl))))
          · exact .inr (.inr (.inr (.inr (.inr ⟨hq, hn⟩)))))
      have hRR8 : (RR, listOf (rxs items) kRR) ∈ del D Le := mem_del.mpr ⟨hRR2, x3.nRD⟩
      have hI8 : (I, oI) ∈ del D Le := mem_del.mpr ⟨hI2, Ne.symm (Ne.symm (x3.pd (.head _)))⟩
      k_steps
      · rename (_ != _) = true => e9
        simp [sxs_size, rxs_size] at e9
      exact k _ D8 D2 (items.filter (fun j => decide (j.dat.num ≠ z))) _ o9 _ _ (by assumption) (by assumption) (x8.up (Nat.le_succ i)) (.tail _ (.tail _ (.tail _ (.tail _ (.tail _ hI8))))) (.tail _ (.tail _ (.tail _ (.tail _ (.head _))))) ⟨_, hcc⟩ ⟨rfl, rfl, rfl, _, rfl⟩
set_option maxRecDepth 100000 in
set_option maxHeartbeats 8000000 in
theorem turn_delete {I a : Addr} {oI oc : Obj} {cd : Value} {W NA S D R RR : Addr} {items : List Itm} {i : Nat} {last : Int} {m₂ : Str → Option Value} {Ld : List (Addr × Obj)} {Q : Flow → Shared → Prop} {h₂ : Heap} {tk₂ : Nat} {sort which value one other : Int}
    (B : Below callerA h₀ [] h₀) (X : (hd.heap_39 w.params).In h₀) (T : TopM mean mg mb h₀) (hi : i < 14) (w0 : 0 ≤ which) (w1 : which < 5) (v0 : 0 ≤ value) (v1 : value < 12)
    (x : St w Ld [I, L + 1] W NA S D R RR items (i + 1 + 1) i last) (hI : (I, oI) ∈ Ld) (hc : (L + 1, oc) ∈ Ld) (hoc : ∃ v, oc.data = .cell v) (hm : Nm m₂ W S RR last) (hdn : Dn m₂ sort which value one other) (F : Fr h₀ L h₂ m₂) (N : News h₀ L h₂ Ld)
    (hs1 : sort = 5) (hne : items ≠ []) :
    wpAny (model prg w) (callerA.deeper (envLaw L a cd)) (execs (turnBody.drop 1) (envLaw L a cd)) (TurnG h₀ L (JL w (L + 1) W NA S D (i + 1)) I oI s Q) E { s with heap := h₂, toks := tk₂ } := by
  unfold turnBody envLaw at *
  with_unfolding_all show wpAny _ (Around.deeper _ (envOfC _ (Scope.mk _ _ _ _ _) _ _ _)) (execs (_ :: _) (envOfC _ (Scope.mk _ _ _ _ _) _ _ _)) _ _ _
  refine hold fun H9 hH9 => ?_
  obtain ⟨tl, t1, t2, t3, t4, t5, em⟩ := Dn.eq hm hdn
  rw [em] at F
  obtain ⟨kRR, hRR⟩ := x.hRR
  have hS := x.hS
  obtain ⟨k0, k1, tq, nq, hD⟩ := x.hD
  obtain ⟨kR, hR⟩ := x.hR
  refine hH9 ?_
  clear hH9 H9
  have hlen := x.len
  have hpos : 0 < items.length := List.length_pos_iff.mpr hne
  have hsz : ((rxs items).size : Int) = items.length := by rw [rxs_size]
  have hszp : 0 < ((rxs items).size : Int) := by omega
  have hz0 : ¬ sort = 0 := by omega
  have hmem : ∀ q ∈ Ld, q.1 ≠ L + 1 → q ∈ (L + 1, oc) :: del (L + 1) Ld := fun q hq hn => List.mem_cons_of_mem _ (mem_del.mpr ⟨hq, hn⟩)
  have hLfix := x.fix
  have hLfix' : ∀ a ∈ R :: RR :: W :: NA :: S :: D :: [I], @Ne Nat a (L + 1) := by
    have h1 : (R :: RR :: W :: NA :: S :: D :: [I, L + 1]).Perm ((L + 1) :: R :: RR :: W :: NA :: S :: D :: [I]) := (List.perm_middle (l₁ := [R, RR, W, NA, S, D, I]) (a := L + 1) (l₂ := []))
    exact fun a ha e => (List.nodup_cons.mp (h1.nodup_iff.mp hLfix)).1 (e ▸ ha)
  have x2 : St w ((L + 1, oc) :: del (L + 1) Ld) [I, L + 1] W NA S D R RR items (i + 1 + 1) i last := x.sub fun q hq => by
    by_cases e : q.1 = L + 1
    · have h1 := (N _ hq).1
      have h2 := (N _ hc).1
      rw [e, h2] at h1
      have : q = (L + 1, oc) := Prod.ext e (Option.some.inj h1).symm
      rw [this]; exact List.mem_cons_self
    · exact hmem q hq e
  replace N : News h₀ L h₂ ((L + 1, oc) :: del (L + 1) Ld) := newsSub N (del_sub hc)
  obtain ⟨cv, hcv⟩ := hoc
  have hRR2 : (RR, listOf (rxs items) kRR) ∈ del (L + 1) Ld := mem_del.mpr ⟨hRR, hLfix' RR (.tail _ (.head _))⟩
  have hI2 : (I, oI) ∈ del (L + 1) Ld := mem_del.mpr ⟨hI, hLfix' I (.tail _ (.tail _ (.tail _ (.tail _ (.tail _ (.tail _ (.head _)))))))⟩
  have hS2 : (S, instObj 148 D) ∈ del (L + 1) Ld := mem_del.mpr ⟨hS, hLfix' S (.tail _ (.tail _ (.tail _ (.tail _ (.head _)))))⟩
  have hD2 : (D, dictOf (stopsEs w.params k0 k1 R last tq) nq) ∈ del (L + 1) Ld := mem_del.mpr ⟨hD, hLfix' D (.tail _ (.tail _ (.tail _ (.tail _ (.tail _ (.head _))))))⟩
  have hR2 : (R, listOf (sxs items) kR) ∈ del (L + 1) Ld := mem_del.mpr ⟨hR, hLfix' R (.head _)⟩
  have hoff2 : ∀ q ∈ del (L + 1) Ld, q.1 ≠ L + 1 := del_off
  have hall2 : ∀ j ∈ items, ItmIn w (del (L + 1) Ld) j := fun j hj => (x.hall j hj).subBut fun q hq hm => mem_del.mpr ⟨hq, fun e => x.off j hj _ hm (by rw [e]; simp)⟩
  generalize del (L + 1) Ld = Le at *
  clear hmem hc hI hS hD hR hRR x
  k_steps
  unfold Halt
  rename Fr h₀ L _ _ => F1
  rename News h₀ L _ _ => N1
  rename Addr => Z
  refine eq_lists_short N1 (List.mem_cons_of_mem _ (List.mem_cons_of_mem _ hRR2)) List.mem_cons_self (by rw [rxs_size, bne_iff_ne]; simpa using hne) (by show callerA.units + 3 < cLine; decide) ?_
  replace N1 := newsTail N1
  k_steps
  all_goals try dsimp only
  rotate_left
  refine item_row N1 (List.mem_cons_of_mem _ hRR2) (fmod_ge _ _ hszp) (by rw [← hsz]; exact fmod_lt' _ _ hszp) (by omega) ?_ (by with_unfolding_all rfl)
  intro it hit
  have hin := hall2 it hit
  refine hold fun H9 hH9 => ?_
  obtain ⟨ro, rvt, r1, r2, r3⟩ := hin.d
  refine hH9 ?_
  clear hH9 H9
  k_steps
  all_goals
    unfold Halt
    rename Fr h₀ L _ _ => F2
    rename News h₀ L _ _ => N2
    rename Obj.data _ = Data.cell (some (Value.int _ _)) => hcc0
    refine hold fun H9 hH9 => ?_
    obtain ⟨z, tz, hcc⟩ := ex_cell hcc0
    refine hH9 ?_
    clear hH9 H9
    clear hcc0
    refine del_rest B X T hi (x2.poke (by simp) List.mem_cons_self fun q hq hn => ?_) hI2 hoff2 hcc ⟨rfl, rfl, rfl, _, rfl⟩ F2 N2 ?_
    · rcases List.mem_cons.mp hq with rfl | hq
      · exact absurd rfl hn
      · exact List.mem_cons_of_mem _ hq
    intro m' R' RR' items' Ld' oc' h' tk F' N' x' hI' hc' hoc' hm'
    obtain ⟨tl', em'⟩ := hm'.eq
    rw [em'] at F'
    clear F2 N2
    k_steps
    unfold Halt
    rename Fr h₀ L _ _ => F9
    rename News h₀ L _ _ => N9
    refine looks_at B X T F9 N9 x' (by omega) ?_
    intro h10 tk10 F10 N10
    clear F9 N9
    k_steps
    exact turn_end x' hI' hc' hoc' ⟨rfl, rfl, rfl, _, rfl⟩ (by assumption) (by assumption)
-- part C25
theorem words_C25 : True := by
  k_with_none
  k_with "spliced" => (refine args_nil ?_; (try dsimp only [List.cons_append, List.nil_append]))
  k_with "mem" => ((refine memL ?_); with_reducible assumption)
  k_with "all" => (first | with_reducible assumption | exact Mine.neAll (by with_reducible assumption) | fail "mine")
  k_with "put" => (first | exact put_last | exact put_rows | exact put_cond | exact put_ign | exact put_hits | exact put_on | exact put_trb | fail "mine")
  k_with "room" => (first | exact Mine.rm 0 (by exact rfl) (by with_reducible assumption) (by exact rfl) | exact Mine.rm 1 (by exact rfl) (by with_reducible assumption) (by exact rfl) | exact Mine.rm 2 (by exact rfl) (by with_reducible assumption) (by exact rfl) | exact Mine.rm 3 (by exact rfl) (by with_reducible assumption) (by exact rfl) | exact Mine.rm 4 (by exact rfl) (by with_reducible assumption) (by exact rfl) | (simp only [depth_under_make, depth_under_kw, depth_in1, depth_deeper, recursionLimit]; omega))
  k_with "size" => (first | with_reducible assumption | with_reducible exact Mine.sz0 | with_reducible exact Mine.sz1 | with_reducible exact Mine.sz2 | with_reducible exact Mine.sz3 | with_reducible exact Mine.sz4 | with_reducible exact Mine.sz5 | with_reducible exact Mine.sz6 | exact Mine.sz_lt (by with_reducible assumption) (by exact rfl) | exact Mine.sz_le (by with_reducible assumption) (by exact rfl) | fail "mine")
  k_with "lt" => ((rename AllLt _ _ => hlt9); (try dsimp only [AllLt] at hlt9); (try simp only [and_true] at hlt9); (try first | (have hz8 := AllLt.lt (hlt9)) | (have hz8 := AllLt.lt (hlt9).2) | (have hz8 := AllLt.lt (hlt9).2.2) | (have hz8 := AllLt.lt (hlt9).2.2.2) | (have hz8 := AllLt.lt (hlt9).2.2.2.2) | (have hz8 := AllLt.lt (hlt9).2.2.2.2.2) | (have hz8 := AllLt.lt (hlt9).2.2.2.2.2.2) | (have hz8 := AllLt.lt (hlt9).2.2.2.2.2.2.2) | (have hz8 := AllLt.lt (hlt9).2.2.2.2.2.2.2.2) | (have hz8 := AllLt.lt (hlt9).2.2.2.2.2.2.2.2.2) | (have hz8 := AllLt.lt (hlt9).2.2.2.2.2.2.2.2.2.2) | (have hz8 := AllLt.lt (hlt9).2.2.2.2.2.2.2.2.2.2.2) | (have hz8 := AllLt.lt (hlt9).2.2.2.2.2.2.2.2.2.2.2.2)))
  k_with "ltc" => (first | with_reducible assumption | exact And.left (by with_reducible assumption) | exact And.left (And.right (by with_reducible assumption)) | exact And.left (And.right (And.right (by with_reducible assumption))) | exact And.left (And.right (And.right (And.right (by with_reducible assumption)))) | exact And.left (And.right (And.right (And.right (And.right (by with_reducible assumption))))) | exact And.left (And.right (And.right (And.right (And.right (And.right (by with_reducible assumption)))))) | exact And.left (And.right (And.right (And.right (And.right (And.right (And.right (by with_reducible assumption))))))) | exact And.left (And.right (And.right (And.right (And.right (And.right (And.right (And.right (by with_reducible assumption)))))))) | exact And.left (And.right (And.right (And.right (And.right (And.right (And.right (And.right (And.right (by with_reducible assumption))))))))) | exact And.left (And.right (And.right (And.right (And.right (And.right (And.right (And.right (And.right (And.right (by with_reducible assumption)))))))))) | exact And.right (by with_reducible assumption) | exact And.right (And.right (by with_reducible assumption)) | exact And.right (And.right (And.right (by with_reducible assumption))) | exact And.right (And.right (And.right (And.right (by with_reducible assumption)))) | exact And.right (And.right (And.right (And.right (And.right (by with_reducible assumption))))) | exact And.right (And.right (And.right (And.right (And.right (And.right (by with_reducible assumption)))))) | exact And.right (And.right (And.right (And.right (And.right (And.right (And.right (by with_reducible assumption))))))) | exact And.right (And.right (And.right (And.right (And.right (And.right (And.right (And.right (by with_reducible assumption)))))))) | exact And.right (And.right (And.right (And.right (And.right (And.right (And.right (And.right (And.right (by with_reducible assumption))))))))) | fail "mine")
  k_with "ne" => (first | k_extra "ltc" | ((with_reducible refine' Ne.symm ?_); k_extra "ltc") | ((with_reducible refine' Nat.ne_of_gt ?_); k_extra "ltc") | ((with_reducible refine' Nat.ne_of_lt ?_); k_extra "ltc") | ((with_reducible refine' Nat.ne_of_gt (Nat.lt_succ_of_lt ?_)); k_extra "ltc") | fail "mine")
  k_with "omega" => (first | k_extra "ltc" | with_reducible decide | k_extra "ne" | k_extra "bd" | fail "mine")
  k_with "bd" => (first | with_reducible exact Mine.p7 | ((with_reducible refine' Mine.o1 ?oh ?oe); (case oh => with_reducible assumption); (case oe => exact rfl)) | ((with_reducible refine' Mine.o2 ?oh ?oe); (case oh => with_reducible assumption); (case oe => exact rfl)) | ((with_reducible refine' Mine.o3 ?oh ?oe); (case oh => with_reducible assumption); (case oe => exact rfl)) | ((with_reducible refine' Mine.o4 ?oh ?oe); (case oh => with_reducible assumption); (case oe => exact rfl)) | ((with_reducible refine' Mine.o5 ?oh ?oe); (case oh => with_reducible assumption); (case oe => exact rfl)) | ((with_reducible refine' Mine.o6 ?oh ?oe); (case oh => with_reducible assumption); (case oe => exact rfl)) | ((with_reducible refine' Mine.o7 ?oh ?oe); (case oh => with_reducible assumption); (case oe => exact rfl)) | ((with_reducible refine' Mine.p1 ?oh ?oe); (case oh => with_reducible assumption); (case oe => exact rfl)) | ((with_reducible refine' Mine.p4 ?oh ?oe); (case oh => with_reducible assumption); (case oe => exact rfl)) | ((with_reducible refine' Mine.p6 ?oh ?oe); (case oh => with_reducible assumption); (case oe => exact rfl)) | ((with_reducible refine' Mine.r6 ?oh ?oe); (case oh => with_reducible assumption); (case oe => exact rfl)) | ((with_reducible refine' Mine.r13 ?oh ?oe); (case oh => with_reducible assumption); (case oe => exact rfl)) | ((with_reducible refine' Mine.r14 ?oh ?oe); (case oh => with_reducible assumption); (case oe => exact rfl)) | ((with_reducible refine' Mine.r15 ?oh ?oe); (case oh => with_reducible assumption); (case oe => exact rfl)) | ((with_reducible refine' Mine.r18 ?oh ?oe); (case oh => with_reducible assumption); (case oe => exact rfl)) | ((with_reducible refine' Mine.r19 ?oh ?oe); (case oh => with_reducible assumption); (case oe => exact rfl)) | ((with_reducible refine' Mine.r20 ?oh ?oe); (case oh => with_reducible assumption); (case oe => exact rfl)) | ((with_reducible refine' Mine.r21 ?oh ?oe); (case oh => with_reducible assumption); (case oe => exact rfl)) | ((with_reducible refine' Mine.o8 ?og ?oh ?oe); (case og => with_reducible assumption); (case oh => with_reducible assumption); (case oe => exact rfl)) | ((with_reducible refine' Mine.o9 ?og ?oh ?oe); (case og => with_reducible assumption); (case oh => with_reducible assumption); (case oe => exact rfl)) | ((with_reducible refine' Mine.p5 ?og ?oh ?oe); (case og => with_reducible assumption); (case oh => with_reducible assumption); (case oe => exact rfl)) | ((with_reducible refine' Mine.r5 ?og ?oh ?oe); (case og => with_reducible assumption); (case oh => with_reducible assumption); (case oe => exact rfl)) | ((with_reducible refine' Mine.r1 ?og ?oh); (case og => with_reducible assumption); (case oh => with_reducible assumption)) | ((with_reducible refine' Mine.r3 ?og ?oh); (case og => with_reducible assumption); (case oh => with_reducible assumption)) | ((with_reducible refine' Nat.le_trans ?og ?oh); (case og => with_reducible assumption); (case oh => with_reducible assumption)) | ((with_reducible refine' Mine.r22 ?oh); (case oh => with_reducible assumption)) | ((with_reducible refine' Mine.r23 ?oh); (case oh => with_reducible assumption)) | ((with_reducible refine' Mine.big_lo ?oh); (case oh => with_reducible assumption)) | ((with_reducible refine' Mine.big_hi ?oh); (case oh => with_reducible assumption)) | ((with_reducible refine' Mine.big_ten ?oh); (case oh => with_reducible assumption)) | ((with_reducible refine' Int.ne_of_gt ?_); k_extra "ltc") | ((with_reducible refine' Int.le_of_lt ?_); k_extra "ltc") | with_reducible exact Int.le_refl _ | with_reducible exact Nat.le_succ _ | with_reducible exact Nat.zero_add _ | fail "mine")
  k_with "call builtin:sorted" => ((k_here; (refine' sorted_led ?F ?N ?m ?i ?b ?_; (case F => k_asm); (case N => k_asm); (case m => k_mem); (case i => k_asm); (case b => k_asm); k_whole); intro wD' wvs' wc' wh' wF' wN' wl1' wi'; (try k_lt wl1'); (try dsimp only)))
  k_with "TurnG" => (first | ((with_reducible show TurnG _ _ _ _ _ _ _ (Flow.ret _) _); dsimp only [TurnG]) | ((with_reducible show TurnG _ _ _ _ _ _ _ Flow.brk _); dsimp only [TurnG]))
  k_with "exec Assign cons ListComp" => ((k_here; k_dflt (first
  | (refine LCt.Assign_ListComp_T (F₀ := by k_asm) (by rfl) (by with_unfolding_all rfl) (by with_unfolding_all rfl) (by decide) (by rfl) (by decide) (by rfl) (by rfl) (by rfl) ?_)
  | (refine LCg.Assign_ListComp_U (F₀ := by k_asm) (by rfl) (by with_unfolding_all rfl) (by with_unfolding_all rfl) (by decide) (by rfl) (by decide) (by rfl) (by rfl) (by rfl) ?_))))
  k_with "eval ListComp" => ((k_here; k_dflt (first
  | (refine LCt.ListComp_T (F₀ := by k_asm) (by with_unfolding_all rfl) (by decide) (by rfl) (by decide) (by rfl) ?_)
  | (refine LCg.ListComp_U (F₀ := by k_asm) (by with_unfolding_all rfl) (by decide) (by rfl) (by decide) (by rfl) ?_))))
  k_with "CompSrcT" => (fail "mine: by hand")
  k_with "CompSrc" => (fail "mine: by hand")
  k_with "call builtin:len" => ((k_here; k_dflt (refine' len_led ?N ?m ?b ?_; (case N => k_asm); (case m => k_mem); (case b => first | omega | ((simp only [sxs_size, rxs_size, List.size_toArray, List.length_map, Array.size_push]); omega)); k_whole)))
  k_with "compareOp In int ref" => ((k_here; k_dflt (refine' in_led ?N ?m ?i ?_; (case N => k_asm); (case m => k_mem); (case i => k_asm); k_whole)))
  k_with "compareOp NotIn int ref" => ((k_here; k_dflt (refine' notin_led ?N ?m ?i ?_; (case N => k_asm); (case m => k_mem); (case i => k_asm); k_whole)))
  k_with "setItem ref int" => ((k_here; k_dflt (refine' kda_set (knd := PySem.intKind _ _) ?F ?N ?U ?d (intKind_is _ _ _ _) ?z ?_; (case F => k_asm); (case N => k_asm); (case U => k_updF); (case d => k_asm); (case z => k_asm)); intro wh' wo' wF' wN' whd'; (try dsimp only at wN'); (try k_sweep); (try dsimp only)))
  k_with "setItem ref str" => ((k_here; k_dflt (refine' kda_set (knd := PySem.strKind _ _) ?F ?N ?U ?d (strKind_is _ _ _ _) ?z ?_; (case F => k_asm); (case N => k_asm); (case U => k_updF); (case d => k_asm); (case z => rw [sizeLine_eq]; exact Nat.le_of_ble_eq_true (by with_unfolding_all rfl))); intro wh' wo' wF' wN' whd'; (try first | rw [stored_cond] at whd' | rw [stored_ign] at whd' | rw [stored_hits] at whd' | rw [stored_on] at whd' | rw [stored_trb] at whd'); (try dsimp only at whd'); (try dsimp only at wN'); (try k_sweep); (try dsimp only)))
  k_with "subscriptTail Name" => ((k_here; (with_reducible show wpAny _ _ (subscriptTail _ _ (Value.ref _) (Value.str _ _)) _ _ _); k_dflt (refine kda_item (knd := PySem.strKind _ _) (by k_asm) (by k_mem) (by k_asm) (strKind_is _ _ _ _) (by rfl) ?_); (try dsimp only)))
  k_with "getItem ref str" => ((k_here; k_dflt (refine kdt_getItem (knd := PySem.strKind _ _) (by k_asm) (by k_mem) (by k_asm) (strKind_is _ _ _ _) (by rfl) ?_); (try dsimp only)))
  k_with "subscriptTail" => ((k_here; (with_reducible show wpAny _ _ (subscriptTail _ _ (Value.ref _) (Value.int _ _)) _ _ _); k_dflt (first
  | (refine' item_menu menu6 6 ?N ?m ?a ?b ?c (menu6_at _ _ _ _ _ _) ?_ (by with_unfolding_all rfl); (case N => k_asm); (case m => k_mem); (case a => exact fmod_ge _ _ (by decide)); (case b => exact fmod_lt' _ _ (by decide)); (case c => decide); k_whole)
  | (refine' item_menu menu2 2 ?N ?m ?a ?b ?c (menu2_at _ _) ?_ (by with_unfolding_all rfl); (case N => k_asm); (case m => k_mem); (case a => exact fmod_ge _ _ (by decide)); (case b => exact fmod_lt' _ _ (by decide)); (case c => decide); k_whole)
  | (refine' item_menu kindOf 2 ?N ?m ?a ?b ?c (kinds_at _ _) ?_ (by with_unfolding_all rfl); (case N => k_asm); (case m => k_mem); (case a => exact fmod_ge _ _ (by decide)); (case b => exact fmod_lt' _ _ (by decide)); (case c => decide); k_whole)); intro wtz'; (try dsimp only)))
  k_with "subscriptTail Name Name" => ((k_here; (with_reducible show wpAny _ _ (subscriptTail _ _ (Value.ref _) (Value.int _ _)) _ _ _); k_dflt (refine' item_int ?N ?m ?i ?a ?b ?c ?_ (by with_unfolding_all rfl); (case N => k_asm); (case m => k_mem); (case i => k_asm); (case a => omega); (case b => first | omega | (simp only [List.size_toArray] at *; omega)); (case c => omega); k_whole); intro wtz' whz'; (try dsimp only)))
  k_with "eval Name" => ((k_here; k_dflt (refine' ld ?k1 ?k2 ?_; (case k1 => k_asm); (case k2 => assumption); k_whole)))
  k_with "call builtin:list.append" => ((k_here; (with_reducible show wpAny _ _ (call (Value.builtin _) [Value.ref _, _]) _ _ _); k_dflt (refine' append_K ?k1 ?k2 ?k3 ?_ ?z; (case k1 => k_asm); (case k2 => k_asm); (case k3 => k_upd); (case z => first | size_fits | ((rw [sizeLine_eq]; simp only [List.size_toArray]); omega)); k_whole); intro wh' wF' wN'; (try k_sweep)))
  k_with "call ref" => (((with_reducible first | show wpAny _ _ (call (Value.ref 180) _) _ _ _ | show wpAny _ _ (call (Value.ref 114) _) _ _ _ | show wpAny _ _ (call (Value.ref 166) _) _ _ _ | show wpAny _ _ (call (Value.ref 107) _) _ _ _ | show wpAny _ _ (call (Value.ref 173) _) _ _ _ | show wpAny _ _ (call (Value.ref 119) _) _ _ _ | show wpAny _ _ (call (Value.ref 206) _) _ _ _ | show wpAny _ _ (call (Value.ref 194) _) _ _ _ | show wpAny _ _ (call (Value.ref 145) _) _ _ _ | show wpAny _ _ (call (Value.ref 199) _) _ _ _); refine stopHere ?_))
  k_with "compareOp NotEq ref ref" => ((refine stopHere ?_))
  k_with "compareOp Eq ref ref" => ((refine stopHere ?_))
  k_with "binaryOp Add ref ref" => ((refine stopHere ?_))
  k_with "ite" => (first | (refine' ite_off ?c ?_; (case c => (simp only [beq_iff_eq, decide_eq_true_eq]; omega))) | (refine' ite_on ?c ?_; (case c => (simp only [beq_iff_eq, decide_eq_true_eq]; omega))))
  trivial
theorem news_uniq {h : Heap} {l : List (Addr × Obj)} {a : Addr} {o : Obj} (N : News h₀ L h l) (h1 : (a, o) ∈ l) : ∀ q ∈ l, q.1 = a → q = (a, o) := fun q hq e => by
  have h2 := (N q hq).1
  have h3 := (N _ h1).1
  rw [e, h3] at h2
  exact Prod.ext e (Option.some.inj h2).symm
section
variable {prog : Program} {A : Around} {l : Addr} {c : Nat} {tk : Tok} {items : List Itm} {it : Itm}
theorem item_last {value slice : Expr} (N : News h₀ L s.heap news) (hm : (l, listOf (rxs (items ++ [it])) c) ∈ news) (hN : items.length ≤ 100000) (h : Q (.ref it.rx) s)
    (hs : subscripted slice false (.ref l) (.int (-1) tk) = operate [.ref l, .int (-1) tk] (getItem (.ref l) (.int (-1) tk))) :
    wpAny (model prog w) A (subscriptTail value slice (.ref l) (.int (-1) tk)) Q E s := by
  have hL : s.heap.IsList l (rxs (items ++ [it])) := ⟨_, (N _ hm).1, rfl, c, rfl⟩
  have hsz : (rxs (items ++ [it])).size = items.length + 1 := by simp [rxs]
  refine tail_any hL.typeIs slot_list_getitem.lookup (wpAny_getItem_list_neg hL (by decide) (by rw [hsz]; exact Int.neg_le_neg (Int.ofNat_le.mpr (Nat.succ_pos _))) (by decide) ?_ h) hs
  have : ((-1 : Int) + (rxs (items ++ [it])).size).toNat = items.length := by
    rw [hsz]
    have e : (-1 : Int) + ((items.length : Int) + 1) = items.length := by rw [Int.add_comm (items.length : Int) 1, Int.neg_add_cancel_left]
    exact congrArg Int.toNat e
  rw [this]
  simp [rxs]
end
noncomputable abbrev newBody : List Stmt := ifBody turnBody[1]?
section
variable {prog : Program} {A : Around} {k : Int} {tk : Tok}
theorem pick4 {value slice : Expr} {l l1 l2 l3 l4 : Addr} {c c1 c2 c3 c4 : Nat} {one other : Int} {u1 u2 u3 u4 u5 u6 : Tok} (N : News h₀ L s.heap news) (hm : (l, listOf [Value.ref l1, .ref l2, .ref l3, .ref l4].toArray c) ∈ news)
    (h1 : (l1, listOf [Value.int one u1, .int other u2].toArray c1) ∈ news) (h2 : (l2, listOf [Value.int other u3, .int one u4, .int one u5].toArray c2) ∈ news) (h3 : (l3, listOf [Value.int one u6].toArray c3) ∈ news) (h4 : (l4, listOf [].toArray c4) ∈ news)
    (h0 : 0 ≤ k) (hk : k < 4) (h : ∀ a vs ns c, (a, listOf (List.toArray vs) c) ∈ news → IntsAre vs ns → ns.length ≤ 3 → (∀ x ∈ ns, x = one ∨ x = other) → (a = l1 ∨ a = l2 ∨ a = l3 ∨ a = l4) → Q (.ref a) s)
    (hs : subscripted slice false (.ref l) (.int k tk) = operate [.ref l, .int k tk] (getItem (.ref l) (.int k tk))) :
    wpAny (model prog w) A (subscriptTail value slice (.ref l) (.int k tk)) Q E s := by
  have hL := led_list N hm
  obtain ⟨n, hn, rfl⟩ := nat_of (k := 4) h0 hk
  rcases nat4 n hn with rfl | rfl | rfl | rfl
  · exact tail_any hL.typeIs slot_list_getitem.lookup (wpAny_getItem_list hL (by decide) (by decide) rfl (h l1 _ [one, other] _ h1 (.cons _ _ (.cons _ _ .nil)) (Nat.le_of_ble_eq_true rfl) (List.forall_mem_cons.mpr ⟨.inl rfl, List.forall_mem_cons.mpr ⟨.inr rfl, List.forall_mem_nil _⟩⟩) (.inl rfl))) hs
  · exact tail_any hL.typeIs slot_list_getitem.lookup (wpAny_getItem_list hL (by decide) (by decide) rfl (h l2 _ [other, one, one] _ h2 (.cons _ _ (.cons _ _ (.cons _ _ .nil))) (Nat.le_of_ble_eq_true rfl) (List.forall_mem_cons.mpr ⟨.inr rfl, List.forall_mem_cons.mpr ⟨.inl rfl, List.forall_mem_cons.mpr ⟨.inl rfl, List.forall_mem_nil _⟩⟩⟩) (.inr (.inl rfl)))) hs
  · exact tail_any hL.typeIs slot_list_getitem.lookup (wpAny_getItem_list hL (by decide) (by decide) rfl (h l3 _ [one] _ h3 (.cons _ _ .nil) (Nat.le_of_ble_eq_true rfl) (List.forall_mem_cons.mpr ⟨.inl rfl, List.forall_mem_nil _⟩) (.inr (.inr (.inl rfl))))) hs
  · exact tail_any hL.typeIs slot_list_getitem.lookup (wpAny_getItem_list hL (by decide) (by decide) rfl (h l4 _ [] _ h4 .nil (Nat.le_of_ble_eq_true rfl) (List.forall_mem_nil _) (.inr (.inr (.inr rfl))))) hs
end
set_option maxRecDepth 100000 in
set_option maxHeartbeats 8000000 in
theorem new_body {I a c : Addr} {oI oc : Obj} {cd : Value} {W NA S D R RR : Addr} {items : List Itm} {i : Nat} {last : Int} {m₂ : Str → Option Value} {Ld : List (Addr × Obj)} {Q : Flow → Shared → Prop} {sort which value one other : Int}
    (B : Below callerA h₀ [] h₀) (X : (hd.heap_39 w.params).In h₀) (T : TopM mean mg mb h₀) (hi : i < 14) (v0 : 0 ≤ value) (v1 : value < 12) (o0 : 0 ≤ one) (o1 : one < 8) (p0 : 0 ≤ other) (p1 : other < 8)
    (x : St w Ld [I, c] W NA S D R RR items (i + 1 + 1) i last) (hI : (I, oI) ∈ Ld) (hc : (c, oc) ∈ Ld) (hm : Nm m₂ W S RR last) (hdn : Dn m₂ sort which value one other) (F : Fr h₀ L s.heap m₂) (N : News h₀ L s.heap Ld)
    (k : ∀ m' RR' items' Ld' h' tk, Fr h₀ L h' m' → News h₀ L h' Ld' → St w Ld' [I, c] W NA S D R RR' items' (i + 1 + 1) (i + 1) (last + 1) → (I, oI) ∈ Ld' → (c, oc) ∈ Ld' → Nm m' W S RR' (last + 1) → Q .next { s with heap := h', toks := tk }) :
    wpAny (model prg w) (callerA.deeper (envLaw L a cd)) (execs newBody (envLaw L a cd)) Q E s := by
  unfold newBody turnBody envLaw at *
  with_unfolding_all show wpAny _ (Around.deeper _ (envOfC _ (Scope.mk _ _ _ _ _) _ _ _)) (execs (_ :: _) (envOfC _ (Scope.mk _ _ _ _ _) _ _ _)) _ _ _
  refine hold fun H9 hH9 => ?_
  obtain ⟨tl, t1, t2, t3, t4, t5, em⟩ := Dn.eq hm hdn
  refine hH9 ?_
  clear hH9 H9
  rw [em] at F
  k_steps
  dsimp only
  rename News h₀ L _ _ => N1
  rename Fr h₀ L _ _ => F1
  refine pick4 N1 List.mem_cons_self (List.mem_cons_of_mem _ (List.mem_cons_of_mem _ (List.mem_cons_of_mem _ (List.mem_cons_of_mem _ List.mem_cons_self)))) (List.mem_cons_of_mem _ (List.mem_cons_of_mem _ (List.mem_cons_of_mem _ List.mem_cons_self))) (List.mem_cons_of_mem _ (List.mem_cons_of_mem _ List.mem_cons_self)) (List.mem_cons_of_mem _ List.mem_cons_self) (fmod_ge _ _ (by decide)) (fmod_lt' _ _ (by decide)) ?_ (by with_unfolding_all rfl)
  intro ac cvs cns cc hac hcv hcl hcx hacw
  have hacf : ∀ q ∈ Ld, q.1 ≠ ac := by
    rcases hacw with rfl | rfl | rfl | rfl <;> exact neAll (by assumption)
  have hacD : @Ne Nat ac D := by
    refine hold fun H9 hH9 => ?_
    obtain ⟨_, _, _, _, z⟩ := x.hD
    refine hH9 ?_
    clear hH9 H9
    exact Ne.symm (hacf _ z)
  have hacR : @Ne Nat ac R := by
    obtain ⟨_, z⟩ := x.hR
    exact Ne.symm (hacf _ z)
  refine hold fun H9 hH9 => ?_
  obtain ⟨Ld1, N2, sub1, hac1⟩ : ∃ Ld1, News h₀ L _ Ld1 ∧ (∀ q ∈ Ld, q ∈ Ld1) ∧ (ac, listOf (List.toArray cvs) cc) ∈ Ld1 := ⟨_, N1, fun q hq => .tail _ (.tail _ (.tail _ (.tail _ (.tail _ hq)))), hac⟩
  refine hH9 ?_
  clear hH9 H9
  have x1 : St w Ld1 [I, c] W NA S D R RR items (i + 1 + 1) i last := x.sub sub1
  have hI1 : (I, oI) ∈ Ld1 := sub1 _ hI
  have hc1 : (c, oc) ∈ Ld1 := sub1 _ hc
  clear N1 hac sub1 x hI hc
  refine hold fun H9 hH9 => ?_
  obtain ⟨kRR, hRR⟩ := x1.hRR
  have hS := x1.hS
  obtain ⟨k0, k1, tq, nq, hD⟩ := x1.hD
  obtain ⟨kR, hR⟩ := x1.hR
  refine hH9 ?_
  clear hH9 H9
  have hlen := x1.len
  have hsz : ((rxs items).size : Int) = items.length := by rw [rxs_size]
  k_steps
  rename Fr h₀ L _ _ => F3
  rename News h₀ L _ _ => N3
  have hcvl := hcv.length
  dsimp only at F3 N3
  refine list_copyK (items := List.toArray cvs) F3 N3 (led_list (l := ac) (vs := cvs) (c := cc) N3 (by repeat' (first | exact hac1 | refine .tail _ ?_))) ?_ (by rw [List.size_toArray, hcv.length]; exact sz_le hcl rfl)
  intro D3 c3 h3 F4 N4 l4
  clear F3 N3
  refine hold fun H9 hH9 => ?_
  obtain ⟨Ld2, N5, sub2, hD32, lt2⟩ : ∃ Ld2, News h₀ L h3 Ld2 ∧ (∀ q ∈ Ld1, q ∈ Ld2) ∧ (D3, listOf (List.toArray cvs) c3) ∈ Ld2 ∧ (∀ q ∈ Ld1, q.1 < D3) := ⟨_, N4, fun q hq => by repeat' (first | exact hq | refine .tail _ ?_), .head _, fun q hq => l4 q (by repeat' (first | exact hq | refine .tail _ ?_))⟩
  refine hH9 ?_
  clear hH9 H9
  have x2 : St w Ld2 [I, c] W NA S D R RR items (i + 1 + 1) i last := x1.sub sub2
  have hI2 := sub2 _ hI1
  have hc2 := sub2 _ hc1
  have hac2 := sub2 _ hac1
  have hS2 := sub2 _ hS
  have hD2 := sub2 _ hD
  have hR2 := sub2 _ hR
  have hRR2 := sub2 _ hRR
  have hlD3 := lt2
  have hSu := news_uniq N5 hS2
  clear N4 sub2 lt2 l4
  k_steps
  unfold Halt
  have hSD : @Ne Nat S D := x2.nsd
  have hSR : @Ne Nat S R := Ne.symm x2.nrs
  have hDR : @Ne Nat D R := Ne.symm x2.nrd
  have hne3 : D3 ≠ S ∧ D3 ≠ D ∧ D3 ≠ R := ⟨Ne.symm (Nat.ne_of_lt (hlD3 _ hS)), Ne.symm (Nat.ne_of_lt (hlD3 _ hD)), Ne.symm (Nat.ne_of_lt (hlD3 _ hR))⟩
  have hl0 := x2.l0
  have hl1 := x2.l1
  rename Fr h₀ L _ _ => F5
  rename News h₀ L _ _ => N5'
  refine add_spec (S := S) (D := D) (R := R) (k0 := k0) (k1 := k1) (last := last) (t := tq) (n := nq) (refs := sxs items) (k := kR) (rest := del S (del D (del R Ld2))) (vs := cvs) (ns := cns) (c := c3) B F5 X (newsSub N5' ?_) T rfl rfl (by decide) hSD hSR hDR del_off (fun q hq => del_off q (del_in q hq)) (fun q hq => del_off q (del_in q (del_in q hq)))
    (mem_del.mpr ⟨mem_del.mpr ⟨mem_del.mpr ⟨hD32, hne3.2.2⟩, hne3.2.1⟩, hne3.1⟩) hcv (by omega) hl0 (by omega) (by rw [sxs_size]; omega) ?_
  · intro q hq
    rcases List.mem_cons.mp hq with rfl | hq
    · exact hS2
    rcases List.mem_cons.mp hq with rfl | hq
    · exact hD2
    rcases List.mem_cons.mp hq with rfl | hq
    · exact hR2
    · exact del_in _ (del_in _ (del_in _ hq))
  intro h6 tk6 sx sd sp kt vt vs6 c6 tq6 F6 N6 hi6 lS lD lR lrest lsd lsx
  clear F5 N5'
  have hfr6 : ∀ q ∈ Ld2, q.1 < sp := fun q hq => by
    by_cases e1 : q.1 = S
    · rw [e1]; exact lS
    by_cases e2 : q.1 = D
    · rw [e2]; exact lD
    by_cases e3 : q.1 = R
    · rw [e3]; exact lR
    exact lrest q (mem_del.mpr ⟨mem_del.mpr ⟨mem_del.mpr ⟨hq, e3⟩, e2⟩, e1⟩)
  rw [sxs_push items ⟨sx, sd, sp, 0, 0, ⟨last + 1, kindOf (Int.fmod (Int.fdiv value 4) 2), Str.ofString "at " ++ Str.ofString (toString one), Str.ofString "", 0, 0, true, Str.ofString ""⟩, srt cns⟩] at N6
  refine hold fun H9 hH9 => ?_
  obtain ⟨Ld3, N7, hm3, hsx3, hsd3, hsp3, hS3, hD3, hR3⟩ : ∃ Ld3, News h₀ L h6 Ld3 ∧ (∀ q ∈ Ld2, q.1 ≠ D → q.1 ≠ R → q ∈ Ld3) ∧ (sx, instObj 82 sd) ∈ Ld3 ∧ (sd, dictOf (stopEs w.params kt ⟨last + 1, kindOf (Int.fmod (Int.fdiv value 4) 2), Str.ofString "at " ++ Str.ofString (toString one), Str.ofString "", 0, 0, true, Str.ofString ""⟩ sp vt) 10) ∈ Ld3 ∧ (sp, listOf (List.toArray vs6) c6) ∈ Ld3 ∧ (S, instObj 148 D) ∈ Ld3 ∧
      (D, dictOf (stopsEs w.params k0 k1 R (last + 1) tq6) nq) ∈ Ld3 ∧ (R, listOf (sxs (items ++ [(⟨sx, sd, sp, 0, 0, ⟨last + 1, kindOf (Int.fmod (Int.fdiv value 4) 2), Str.ofString "at " ++ Str.ofString (toString one), Str.ofString "", 0, 0, true, Str.ofString ""⟩, srt cns⟩ : Itm)])) (kR + 1)) ∈ Ld3 :=
    ⟨_, N6, fun q hq e2 e3 => if e1 : q.1 = S then hSu q hq e1 ▸ .tail _ (.tail _ (.tail _ (.head _))) else .tail _ (.tail _ (.tail _ (.tail _ (.tail _ (.tail _ (mem_del.mpr ⟨mem_del.mpr ⟨mem_del.mpr ⟨hq, e3⟩, e2⟩, e1⟩)))))),
      .head _, .tail _ (.head _), .tail _ (.tail _ (.head _)), .tail _ (.tail _ (.tail _ (.head _))), .tail _ (.tail _ (.tail _ (.tail _ (.head _)))), .tail _ (.tail _ (.tail _ (.tail _ (.tail _ (.head _)))))⟩
  refine hH9 ?_
  clear hH9 H9
  have hac3 : (ac, listOf (List.toArray cvs) cc) ∈ Ld3 := hm3 _ hac2 hacD hacR
  have hRR3 : (RR, listOf (rxs items) kRR) ∈ Ld3 := hm3 _ hRR2 x2.nRD (Ne.symm x2.nrr)
  clear N6
  k_steps
  unfold Halt
  rename Fr h₀ L _ _ => F8
  rename News h₀ L _ _ => N8
  refine new_spec (pl := ac) (vs := cvs) (ns := cns) (c := cc) B F8 X N8 T rfl rfl (by decide) (by repeat' (first | exact hac3 | refine .tail _ ?_)) hcv (by omega) ?_
  intro h9 tk9 rx o9 rp vs9 c9 t9 F9 N9 l9 lrp q9 hi9 hd9
  clear F8 N8
  k_steps
  unfold Halt
  rename Fr h₀ L _ _ => F10
  rename News h₀ L _ _ => N10
  rename Addr => Z
  generalize hit : (⟨sx, sd, sp, rx, rp, ⟨last + 1, kindOf (Int.fmod (Int.fdiv value 4) 2), Str.ofString "at " ++ Str.ofString (toString one), Str.ofString "", 0, 0, true, Str.ofString ""⟩, srt cns⟩ : Itm) = it
  have hR3' : (R, listOf (sxs (items ++ [it])) (kR + 1)) ∈ Ld3 := by
    have e : sxs (items ++ [it]) = sxs (items ++ [(⟨sx, sd, sp, 0, 0, ⟨last + 1, kindOf (Int.fmod (Int.fdiv value 4) 2), Str.ofString "at " ++ Str.ofString (toString one), Str.ofString "", 0, 0, true, Str.ofString ""⟩, srt cns⟩ : Itm)]) := by rw [← hit]; simp [sxs]
    rw [e]; exact hR3
  have hsxr : @LT.lt Nat _ sx rx := l9 (sx, instObj 82 sd) (by repeat' (first | exact hsx3 | refine .tail _ ?_))
  refine kmk_add_lit (its := rxs items) (its2 := List.toArray [Value.ref rx]) (zs := (items ++ [it]).map fun i => Value.ref i.rx) F10 N10 ⟨_, (N10 (RR, listOf (rxs items) kRR) (by repeat' (first | exact hRR3 | refine .tail _ ?_))).1, rfl, kRR, rfl⟩ ⟨_, (N10 _ List.mem_cons_self).1, rfl, _, rfl⟩ (by rw [← hit]; simp [rxs]) ?_ (by rw [sizeLine_eq]; simp [rxs]; omega)
  intro RR' h11 F11 N11 l11
  clear F10
  have hl3 : ∀ q ∈ Ld3, q.1 < RR' := fun q hq => l11 q (by repeat' (first | exact hq | refine .tail _ ?_))
  have hrx11 : rx < RR' := l11 (rx, o9) (by repeat' (first | exact .head _ | refine .tail _ ?_))
  have hrp11 : rp < RR' := l11 (rp, listOf (List.toArray vs9) c9) (by repeat' (first | exact .head _ | refine .tail _ ?_))
  refine hold fun H9 hH9 => ?_
  obtain ⟨Ld4, N12, h34, hRR4, hrx4, hrp4⟩ : ∃ Ld4, News h₀ L h11 Ld4 ∧ (∀ q ∈ Ld3, q ∈ Ld4) ∧ (RR', listOf (rxs (items ++ [it])) 0) ∈ Ld4 ∧ (rx, o9) ∈ Ld4 ∧ (rp, listOf (List.toArray vs9) c9) ∈ Ld4 :=
    ⟨_, N11, fun q hq => by repeat' (first | exact hq | refine .tail _ ?_), .head _, by repeat' (first | exact .head _ | refine .tail _ ?_), by repeat' (first | exact .head _ | refine .tail _ ?_)⟩
  refine hH9 ?_
  clear hH9 H9
  clear N11 N10 l11
  have hIt : ItmIn w Ld4 it := by
    rw [← hit]
    exact ⟨h34 _ hsx3, ⟨_, _, _, h34 _ hsd3⟩, ⟨_, _, h34 _ hsp3, hi6⟩, ⟨_, _, hrx4, hd9, q9⟩, ⟨_, _, hrp4, hi9⟩⟩
  have hadr : adr it = [sx, sd, sp, rx, rp] := by rw [← hit]; rfl
  have x4 : St w Ld4 [I, c] W NA S D R RR' (items ++ [it]) (i + 1 + 1) (i + 1) (last + 1) := by
    refine x2.new (it := it) (RR' := RR') (h34 _ hD3) (h34 _ hR3') hRR4 hIt ?_ (by rw [← hit]) ?_ ?_ (fun q hq => Nat.ne_of_lt (Nat.lt_trans (hfr6 q hq) (Nat.lt_trans lsd (Nat.lt_trans lsx (Nat.lt_trans hsxr hrx11))))) ?_ (fun q hq e1 e2 => h34 _ (hm3 q hq e1 e2))
    · rw [← hit]
      refine ⟨by simp [CondOk], by show (0 : Int) ≤ 0; decide, by show (0 : Int) < 10; decide, by show (0 : Int) ≤ 0; decide, by show (0 : Int) ≤ ((i + 1 : Nat) : Int); omega, by show 1 ≤ last + 1; omega, by show last + 1 ≤ last + 1; omega, by show (srt cns).length ≤ 3; rw [srt_length]; exact hcl, ?_⟩
      intro e he
      rcases hcx e (mem_srt.mp he) with rfl | rfl <;> exact ⟨by assumption, by assumption⟩
    · rw [hadr]; exact nodup5 lsd lsx hsxr (Nat.lt_trans hsxr lrp) (Nat.ne_of_lt lrp)
    · rw [hadr]
      exact all5 (fun q hq => Nat.ne_of_lt (Nat.lt_trans (hfr6 q hq) (Nat.lt_trans lsd lsx))) (fun q hq => Nat.ne_of_lt (Nat.lt_trans (hfr6 q hq) lsd)) (fun q hq => Nat.ne_of_lt (hfr6 q hq))
        (fun q hq => Nat.ne_of_lt (Nat.lt_trans (hfr6 q hq) (Nat.lt_trans lsd (Nat.lt_trans lsx hsxr)))) (fun q hq => Nat.ne_of_lt (Nat.lt_trans (hfr6 q hq) (Nat.lt_trans lsd (Nat.lt_trans lsx (Nat.lt_trans hsxr lrp)))))
    · rw [hadr]
      exact all5 (Nat.ne_of_lt (hl3 _ hsx3)) (Nat.ne_of_lt (hl3 _ hsd3)) (Nat.ne_of_lt (hl3 _ hsp3)) (Nat.ne_of_lt hrx11) (Nat.ne_of_lt hrp11)
  have hsx4 := h34 _ hsx3
  have hsd4 := h34 _ hsd3
  have hsp4 := h34 _ hsp3
  have hI4 : (I, oI) ∈ Ld4 := h34 _ (hm3 _ hI2 (Ne.symm (Ne.symm (x2.pd (.head _)))) (Ne.symm (Ne.symm (x2.pr (.head _)))))
  have hc4 : (c, oc) ∈ Ld4 := h34 _ (hm3 _ hc2 (Ne.symm (Ne.symm (x2.pd (.tail _ (.head _))))) (Ne.symm (Ne.symm (x2.pr (.tail _ (.head _))))))
  clear hm3 h34 hl3
  k_steps
  unfold Halt
  refine told_spec B (by assumption) X (by assumption) T rfl rfl (by decide) hsx4 hsd4 ?_
  intro h13 tk13 D13 o13 F13 N13 l13 q13 i13
  k_steps
  dsimp only
  refine item_last N13 (List.mem_cons_of_mem _ hRR4) (by omega) ?_ (by with_unfolding_all rfl)
  have erx : it.rx = rx := by rw [← hit]
  rw [erx]
  k_steps
  unfold Halt
  refine rows_same N13 List.mem_cons_self (List.mem_cons_of_mem _ hrx4) i13 hd9 q13 q9 (List.mem_cons_of_mem _ hsp4) (List.mem_cons_of_mem _ hrp4) hi6 hi9 (by show callerA.units + 3 + 128 < cLine; decide) ?_
  k_steps
  exact k _ RR' (items ++ [it]) Ld4 _ _ (by assumption) (newsTail N13) x4 hI4 hc4 ⟨rfl, rfl, rfl, _, rfl⟩
-- part C26
theorem words_C26 : True := by
  k_with_none
  k_with "spliced" => (refine args_nil ?_; (try dsimp only [List.cons_append, List.nil_append]))
  k_with "mem" => ((refine memL ?_); with_reducible assumption)
  k_with "all" => (first | with_reducible assumption | exact Mine.neAll (by with_reducible assumption) | fail "mine")
  k_with "put" => (first | exact put_last | exact put_rows | exact put_cond | exact put_ign | exact put_hits | exact put_on | exact put_trb | fail "mine")
  k_with "room" => (first | exact Mine.rm 0 (by exact rfl) (by with_reducible assumption) (by exact rfl) | exact Mine.rm 1 (by exact rfl) (by with_reducible assumption) (by exact rfl) | exact Mine.rm 2 (by exact rfl) (by with_reducible assumption) (by exact rfl) | exact Mine.rm 3 (by exact rfl) (by with_reducible assumption) (by exact rfl) | exact Mine.rm 4 (by exact rfl) (by with_reducible assumption) (by exact rfl) | (simp only [depth_under_make, depth_under_kw, depth_in1, depth_deeper, recursionLimit]; omega))
  k_with "size" => (first | with_reducible assumption | with_reducible exact Mine.sz0 | with_reducible exact Mine.sz1 | with_reducible exact Mine.sz2 | with_reducible exact Mine.sz3 | with_reducible exact Mine.sz4 | with_reducible exact Mine.sz5 | with_reducible exact Mine.sz6 | exact Mine.sz_lt (by with_reducible assumption) (by exact rfl) | exact Mine.sz_le (by with_reducible assumption) (by exact rfl) | fail "mine")
  k_with "lt" => ((rename AllLt _ _ => hlt9); (try dsimp only [AllLt] at hlt9); (try simp only [and_true] at hlt9); (try first | (have hz8 := AllLt.lt (hlt9)) | (have hz8 := AllLt.lt (hlt9).2) | (have hz8 := AllLt.lt (hlt9).2.2) | (have hz8 := AllLt.lt (hlt9).2.2.2) | (have hz8 := AllLt.lt (hlt9).2.2.2.2) | (have hz8 := AllLt.lt (hlt9).2.2.2.2.2) | (have hz8 := AllLt.lt (hlt9).2.2.2.2.2.2) | (have hz8 := AllLt.lt (hlt9).2.2.2.2.2.2.2) | (have hz8 := AllLt.lt (hlt9).2.2.2.2.2.2.2.2) | (have hz8 := AllLt.lt (hlt9).2.2.2.2.2.2.2.2.2) | (have hz8 := AllLt.lt (hlt9).2.2.2.2.2.2.2.2.2.2) | (have hz8 := AllLt.lt (hlt9).2.2.2.2.2.2.2.2.2.2.2) | (have hz8 := AllLt.lt (hlt9).2.2.2.2.2.2.2.2.2.2.2.2)))
  k_with "ltc" => (first | with_reducible assumption | exact And.left (by with_reducible assumption) | exact And.left (And.right (by with_reducible assumption)) | exact And.left (And.right (And.right (by with_reducible assumption))) | exact And.left (And.right (And.right (And.right (by with_reducible assumption)))) | exact And.left (And.right (And.right (And.right (And.right (by with_reducible assumption))))) | exact And.left (And.right (And.right (And.right (And.right (And.right (by with_reducible assumption)))))) | exact And.left (And.right (And.right (And.right (And.right (And.right (And.right (by with_reducible assumption))))))) | exact And.left (And.right (And.right (And.right (And.right (And.right (And.right (And.right (by with_reducible assumption)))))))) | exact And.left (And.right (And.right (And.right (And.right (And.right (And.right (And.right (And.right (by with_reducible assumption))))))))) | exact And.left (And.right (And.right (And.right (And.right (And.right (And.right (And.right (And.right (And.right (by with_reducible assumption)))))))))) | exact And.right (by with_reducible assumption) | exact And.right (And.right (by with_reducible assumption)) | exact And.right (And.right (And.right (by with_reducible assumption))) | exact And.right (And.right (And.right (And.right (by with_reducible assumption)))) | exact And.right (And.right (And.right (And.right (And.right (by with_reducible assumption))))) | exact And.right (And.right (And.right (And.right (And.right (And.right (by with_reducible assumption)))))) | exact And.right (And.right (And.right (And.right (And.right (And.right (And.right (by with_reducible assumption))))))) | exact And.right (And.right (And.right (And.right (And.right (And.right (And.right (And.right (by with_reducible assumption)))))))) | exact And.right (And.right (And.right (And.right (And.right (And.right (And.right (And.right (And.right (by with_reducible assumption))))))))) | fail "mine")
  k_with "ne" => (first | k_extra "ltc" | ((with_reducible refine' Ne.symm ?_); k_extra "ltc") | ((with_reducible refine' Nat.ne_of_gt ?_); k_extra "ltc") | ((with_reducible refine' Nat.ne_of_lt ?_); k_extra "ltc") | ((with_reducible refine' Nat.ne_of_gt (Nat.lt_succ_of_lt ?_)); k_extra "ltc") | fail "mine")
  k_with "omega" => (first | k_extra "ltc" | with_reducible decide | k_extra "ne" | k_extra "bd" | fail "mine")
  k_with "bd" => (first | with_reducible exact Mine.p7 | ((with_reducible refine' Mine.o1 ?oh ?oe); (case oh => with_reducible assumption); (case oe => exact rfl)) | ((with_reducible refine' Mine.o2 ?oh ?oe); (case oh => with_reducible assumption); (case oe => exact rfl)) | ((with_reducible refine' Mine.o3 ?oh ?oe); (case oh => with_reducible assumption); (case oe => exact rfl)) | ((with_reducible refine' Mine.o4 ?oh ?oe); (case oh => with_reducible assumption); (case oe => exact rfl)) | ((with_reducible refine' Mine.o5 ?oh ?oe); (case oh => with_reducible assumption); (case oe => exact rfl)) | ((with_reducible refine' Mine.o6 ?oh ?oe); (case oh => with_reducible assumption); (case oe => exact rfl)) | ((with_reducible refine' Mine.o7 ?oh ?oe); (case oh => with_reducible assumption); (case oe => exact rfl)) | ((with_reducible refine' Mine.p1 ?oh ?oe); (case oh => with_reducible assumption); (case oe => exact rfl)) | ((with_reducible refine' Mine.p4 ?oh ?oe); (case oh => with_reducible assumption); (case oe => exact rfl)) | ((with_reducible refine' Mine.p6 ?oh ?oe); (case oh => with_reducible assumption); (case oe => exact rfl)) | ((with_reducible refine' Mine.r6 ?oh ?oe); (case oh => with_reducible assumption); (case oe => exact rfl)) | ((with_reducible refine' Mine.r13 ?oh ?oe); (case oh => with_reducible assumption); (case oe => exact rfl)) | ((with_reducible refine' Mine.r14 ?oh ?oe); (case oh => with_reducible assumption); (case oe => exact rfl)) | ((with_reducible refine' Mine.r15 ?oh ?oe); (case oh => with_reducible assumption); (case oe => exact rfl)) | ((with_reducible refine' Mine.r18 ?oh ?oe); (case oh => with_reducible assumption); (case oe => exact rfl)) | ((with_reducible refine' Mine.r19 ?oh ?oe); (case oh => with_reducible assumption); (case oe => exact rfl)) | ((with_reducible refine' Mine.r20 ?oh ?oe); (case oh => with_reducible assumption); (case oe => exact rfl)) | ((with_reducible refine' Mine.r21 ?oh ?oe); (case oh => with_reducible assumption); (case oe => exact rfl)) | ((with_reducible refine' Mine.o8 ?og ?oh ?oe); (case og => with_reducible assumption); (case oh => with_reducible assumption); (case oe => exact rfl)) | ((with_reducible refine' Mine.o9 ?og ?oh ?oe); (case og => with_reducible assumption); (case oh => with_reducible assumption); (case oe => exact rfl)) | ((with_reducible refine' Mine.p5 ?og ?oh ?oe); (case og => with_reducible assumption); (case oh => with_reducible assumption); (case oe => exact rfl)) | ((with_reducible refine' Mine.r5 ?og ?oh ?oe); (case og => with_reducible assumption); (case oh => with_reducible assumption); (case oe => exact rfl)) | ((with_reducible refine' Mine.r1 ?og ?oh); (case og => with_reducible assumption); (case oh => with_reducible assumption)) | ((with_reducible refine' Mine.r3 ?og ?oh); (case og => with_reducible assumption); (case oh => with_reducible assumption)) | ((with_reducible refine' Nat.le_trans ?og ?oh); (case og => with_reducible assumption); (case oh => with_reducible assumption)) | ((with_reducible refine' Mine.r22 ?oh); (case oh => with_reducible assumption)) | ((with_reducible refine' Mine.r23 ?oh); (case oh => with_reducible assumption)) | ((with_reducible refine' Mine.big_lo ?oh); (case oh => with_reducible assumption)) | ((with_reducible refine' Mine.big_hi ?oh); (case oh => with_reducible assumption)) | ((with_reducible refine' Mine.big_ten ?oh); (case oh => with_reducible assumption)) | ((with_reducible refine' Int.ne_of_gt ?_); k_extra "ltc") | ((with_reducible refine' Int.le_of_lt ?_); k_extra "ltc") | with_reducible exact Int.le_refl _ | with_reducible exact Nat.le_succ _ | with_reducible exact Nat.zero_add _ | fail "mine")
  k_with "call builtin:sorted" => ((k_here; (refine' sorted_led ?F ?N ?m ?i ?b ?_; (case F => k_asm); (case N => k_asm); (case m => k_mem); (case i => k_asm); (case b => k_asm); k_whole); intro wD' wvs' wc' wh' wF' wN' wl1' wi'; (try k_lt wl1'); (try dsimp only)))
  k_with "TurnG" => (first | ((with_reducible show TurnG _ _ _ _ _ _ _ (Flow.ret _) _); dsimp only [TurnG]) | ((with_reducible show TurnG _ _ _ _ _ _ _ Flow.brk _); dsimp only [TurnG]))
  k_with "exec Assign cons ListComp" => ((k_here; k_dflt (first
  | (refine LCt.Assign_ListComp_T (F₀ := by k_asm) (by rfl) (by with_unfolding_all rfl) (by with_unfolding_all rfl) (by decide) (by rfl) (by decide) (by rfl) (by rfl) (by rfl) ?_)
  | (refine LCg.Assign_ListComp_U (F₀ := by k_asm) (by rfl) (by with_unfolding_all rfl) (by with_unfolding_all rfl) (by decide) (by rfl) (by decide) (by rfl) (by rfl) (by rfl) ?_))))
  k_with "eval ListComp" => ((k_here; k_dflt (first
  | (refine LCt.ListComp_T (F₀ := by k_asm) (by with_unfolding_all rfl) (by decide) (by rfl) (by decide) (by rfl) ?_)
  | (refine LCg.ListComp_U (F₀ := by k_asm) (by with_unfolding_all rfl) (by decide) (by rfl) (by decide) (by rfl) ?_))))
  k_with "CompSrcT" => (fail "mine: by hand")
  k_with "CompSrc" => (fail "mine: by hand")
  k_with "call builtin:len" => ((k_here; k_dflt (refine' len_led ?N ?m ?b ?_; (case N => k_asm); (case m => k_mem); (case b => first | omega | ((simp only [sxs_size, rxs_size, List.size_toArray, List.length_map, Array.size_push]); omega)); k_whole)))
  k_with "compareOp In int ref" => ((k_here; k_dflt (refine' in_led ?N ?m ?i ?_; (case N => k_asm); (case m => k_mem); (case i => k_asm); k_whole)))
  k_with "compareOp NotIn int ref" => ((k_here; k_dflt (refine' notin_led ?N ?m ?i ?_; (case N => k_asm); (case m => k_mem); (case i => k_asm); k_whole)))
  k_with "setItem ref int" => ((k_here; k_dflt (refine' kda_set (knd := PySem.intKind _ _) ?F ?N ?U ?d (intKind_is _ _ _ _) ?z ?_; (case F => k_asm); (case N => k_asm); (case U => k_updF); (case d => k_asm); (case z => k_asm)); intro wh' wo' wF' wN' whd'; (try dsimp only at wN'); (try k_sweep); (try dsimp only)))
  k_with "setItem ref str" => ((k_here; k_dflt (refine' kda_set (knd := PySem.strKind _ _) ?F ?N ?U ?d (strKind_is _ _ _ _) ?z ?_; (case F => k_asm); (case N => k_asm); (case U => k_updF); (case d => k_asm); (case z => rw [sizeLine_eq]; exact Nat.le_of_ble_eq_true (by with_unfolding_all rfl))); intro wh' wo' wF' wN' whd'; (try first | rw [stored_cond] at whd' | rw [stored_ign] at whd' | rw [stored_hits] at whd' | rw [stored_on] at whd' | rw [stored_trb] at whd'); (try dsimp only at whd'); (try dsimp only at wN'); (try k_sweep); (try dsimp only)))
  k_with "subscriptTail Name" => ((k_here; (with_reducible show wpAny _ _ (subscriptTail _ _ (Value.ref _) (Value.str _ _)) _ _ _); k_dflt (refine kda_item (knd := PySem.strKind _ _) (by k_asm) (by k_mem) (by k_asm) (strKind_is _ _ _ _) (by rfl) ?_); (try dsimp only)))
  k_with "getItem ref str" => ((k_here; k_dflt (refine kdt_getItem (knd := PySem.strKind _ _) (by k_asm) (by k_mem) (by k_asm) (strKind_is _ _ _ _) (by rfl) ?_); (try dsimp only)))
  k_with "subscriptTail" => ((k_here; (with_reducible show wpAny _ _ (subscriptTail _ _ (Value.ref _) (Value.int _ _)) _ _ _); k_dflt (first
  | (refine' item_menu menu6 6 ?N ?m ?a ?b ?c (menu6_at _ _ _ _ _ _) ?_ (by with_unfolding_all rfl); (case N => k_asm); (case m => k_mem); (case a => exact fmod_ge _ _ (by decide)); (case b => exact fmod_lt' _ _ (by decide)); (case c => decide); k_whole)
  | (refine' item_menu menu2 2 ?N ?m ?a ?b ?c (menu2_at _ _) ?_ (by with_unfolding_all rfl); (case N => k_asm); (case m => k_mem); (case a => exact fmod_ge _ _ (by decide)); (case b => exact fmod_lt' _ _ (by decide)); (case c => decide); k_whole)
  | (refine' item_menu kindOf 2 ?N ?m ?a ?b ?c (kinds_at _ _) ?_ (by with_unfolding_all rfl); (case N => k_asm); (case m => k_mem); (case a => exact fmod_ge _ _ (by decide)); (case b => exact fmod_lt' _ _ (by decide)); (case c => decide); k_whole)); intro wtz'; (try dsimp only)))
  k_with "subscriptTail Name Name" => ((k_here; (with_reducible show wpAny _ _ (subscriptTail _ _ (Value.ref _) (Value.int _ _)) _ _ _); k_dflt (refine' item_int ?N ?m ?i ?a ?b ?c ?_ (by with_unfolding_all rfl); (case N => k_asm); (case m => k_mem); (case i => k_asm); (case a => omega); (case b => first | omega | (simp only [List.size_toArray] at *; omega)); (case c => omega); k_whole); intro wtz' whz'; (try dsimp only)))
  k_with "eval Name" => ((k_here; k_dflt (refine' ld ?k1 ?k2 ?_; (case k1 => k_asm); (case k2 => assumption); k_whole)))
  k_with "call builtin:list.append" => ((k_here; (with_reducible show wpAny _ _ (call (Value.builtin _) [Value.ref _, _]) _ _ _); k_dflt (refine' append_K ?k1 ?k2 ?k3 ?_ ?z; (case k1 => k_asm); (case k2 => k_asm); (case k3 => k_upd); (case z => first | size_fits | ((rw [sizeLine_eq]; simp only [List.size_toArray]); omega)); k_whole); intro wh' wF' wN'; (try k_sweep)))
  k_with "call ref" => (((with_reducible first | show wpAny _ _ (call (Value.ref 180) _) _ _ _ | show wpAny _ _ (call (Value.ref 114) _) _ _ _ | show wpAny _ _ (call (Value.ref 166) _) _ _ _ | show wpAny _ _ (call (Value.ref 107) _) _ _ _ | show wpAny _ _ (call (Value.ref 173) _) _ _ _ | show wpAny _ _ (call (Value.ref 119) _) _ _ _ | show wpAny _ _ (call (Value.ref 206) _) _ _ _ | show wpAny _ _ (call (Value.ref 194) _) _ _ _ | show wpAny _ _ (call (Value.ref 145) _) _ _ _ | show wpAny _ _ (call (Value.ref 199) _) _ _ _); refine stopHere ?_))
  k_with "compareOp NotEq ref ref" => ((refine stopHere ?_))
  k_with "compareOp Eq ref ref" => ((refine stopHere ?_))
  k_with "binaryOp Add ref ref" => ((refine stopHere ?_))
  k_with "ite" => (first | (refine' ite_off ?c ?_; (case c => (simp only [beq_iff_eq, decide_eq_true_eq]; omega))) | (refine' ite_on ?c ?_; (case c => (simp only [beq_iff_eq, decide_eq_true_eq]; omega))))
  k_with "execs cons Assign cons" => ((refine stopHere ?_))
  trivial
set_option maxRecDepth 100000 in
set_option maxHeartbeats 8000000 in
theorem turn_new {I a c : Addr} {oI oc : Obj} {cd : Value} {W NA S D R RR : Addr} {items : List Itm} {i : Nat} {last : Int} {m₂ : Str → Option Value} {Ld : List (Addr × Obj)} {Q : Flow → Shared → Prop} {h₂ : Heap} {tk₂ : Nat} {sort which value one other : Int}
    (B : Below callerA h₀ [] h₀) (X : (hd.heap_39 w.params).In h₀) (T : TopM mean mg mb h₀) (hi : i < 14) (v0 : 0 ≤ value) (v1 : value < 12) (o0 : 0 ≤ one) (o1 : one < 8) (p0 : 0 ≤ other) (p1 : other < 8)
    (x : St w Ld [I, c] W NA S D R RR items (i + 1 + 1) i last) (hI : (I, oI) ∈ Ld) (hc : (c, oc) ∈ Ld) (hoc : ∃ v, oc.data = .cell v) (hm : Nm m₂ W S RR last) (hdn : Dn m₂ sort which value one other) (F : Fr h₀ L h₂ m₂) (N : News h₀ L h₂ Ld)
    (hs : sort = 0 ∨ items = []) :
    wpAny (model prg w) (callerA.deeper (envLaw L a cd)) (execs (turnBody.drop 1) (envLaw L a cd)) (TurnG h₀ L (JL w c W NA S D (i + 1)) I oI s Q) E { s with heap := h₂, toks := tk₂ } := by
  have hm0 := hm
  have hdn0 := hdn
  unfold turnBody envLaw at *
  with_unfolding_all show wpAny _ (Around.deeper _ (envOfC _ (Scope.mk _ _ _ _ _) _ _ _)) (execs (_ :: _) (envOfC _ (Scope.mk _ _ _ _ _) _ _ _)) _ _ _
  refine hold fun H9 hH9 => ?_
  obtain ⟨tl, t1, t2, t3, t4, t5, em⟩ := Dn.eq hm hdn
  rw [em] at F
  obtain ⟨kRR, hRR⟩ := x.hRR
  refine hH9 ?_
  clear hH9 H9
  have hlen := x.len
  by_cases hz : sort = 0
  · all_goals try k_fold
    k_steps
    unfold Halt
    refine new_body (sort := sort) (which := which) (value := value) (one := one) (other := other) (items := items) B X T hi v0 v1 o0 o1 p0 p1 x hI hc (em ▸ hm0) (em ▸ hdn0) (by assumption) (by assumption) ?_
    intro m' RR' items' Ld' h' tk F' N' x' hI' hc' hm'
    obtain ⟨tl', em'⟩ := hm'.eq
    rw [em'] at F'
    all_goals try k_fold
    k_steps
    unfold Halt
    rename Fr h₀ L _ _ => F9
    rename News h₀ L _ _ => N9
    refine looks_at B X T F9 N9 x' (by omega) ?_
    intro h10 tk10 F10 N10
    clear F9 N9
    all_goals try k_fold
    k_steps
    exact turn_end x' hI' hc' hoc ⟨rfl, rfl, rfl, _, rfl⟩ (by assumption) (by assumption)
  · have he : items = [] := hs.resolve_left hz
    subst he
    all_goals try k_fold
    k_steps
    unfold Halt
    rename News h₀ L _ _ => N1
    refine ke_eq_ints ⟨_, (N1 _ (List.mem_cons_of_mem _ hRR)).1, rfl, _, rfl⟩ ⟨_, (N1 _ List.mem_cons_self).1, rfl, _, rfl⟩ .nil .nil (by show callerA.units + 3 + 64 < cLine; decide) ?_
    replace N1 := newsTail N1
    all_goals try k_fold
    k_steps
    unfold Halt
    refine new_body (sort := sort) (which := which) (value := value) (one := one) (other := other) (items := []) B X T hi v0 v1 o0 o1 p0 p1 x hI hc (em ▸ hm0) (em ▸ hdn0) (by assumption) (by assumption) ?_
    intro m' RR' items' Ld' h' tk F' N' x' hI' hc' hm'
    obtain ⟨tl', em'⟩ := hm'.eq
    rw [em'] at F'
    all_goals try k_fold
    k_steps
    unfold Halt
    rename Fr h₀ L _ _ => F9
    rename News h₀ L _ _ => N9
    refine looks_at B X T F9 N9 x' (by omega) ?_
    intro h10 tk10 F10 N10
    clear F9 N9
    all_goals try k_fold
    k_steps
    exact turn_end x' hI' hc' hoc ⟨rfl, rfl, rfl, _, rfl⟩ (by assumption) (by assumption)
-- part C27
theorem words_C27 : True := by
  k_with_none
  k_with "spliced" => (refine args_nil ?_; (try dsimp only [List.cons_append, List.nil_append]))
  k_with "mem" => ((refine memL ?_); with_reducible assumption)
  k_with "all" => (first | with_reducible assumption | exact Mine.neAll (by with_reducible assumption) | fail "mine")
  k_with "put" => (first | exact put_last | exact put_rows | exact put_cond | exact put_ign | exact put_hits | exact put_on | exact put_trb | fail "mine")
  k_with "room" => (first | exact Mine.rm 0 (by exact rfl) (by with_reducible assumption) (by exact rfl) | exact Mine.rm 1 (by exact rfl) (by with_reducible assumption) (by exact rfl) | exact Mine.rm 2 (by exact rfl) (by with_reducible assumption) (by exact rfl) | exact Mine.rm 3 (by exact rfl) (by with_reducible assumption) (by exact rfl) | exact Mine.rm 4 (by exact rfl) (by with_reducible assumption) (by exact rfl) | (simp only [depth_under_make, depth_under_kw, depth_in1, depth_deeper, recursionLimit]; omega))
  k_with "size" => (first | with_reducible assumption | with_reducible exact Mine.sz0 | with_reducible exact Mine.sz1 | with_reducible exact Mine.sz2 | with_reducible exact Mine.sz3 | with_reducible exact Mine.sz4 | with_reducible exact Mine.sz5 | with_reducible exact Mine.sz6 | exact Mine.sz_lt (by with_reducible assumption) (by exact rfl) | exact Mine.sz_le (by with_reducible assumption) (by exact rfl) | fail "mine")
  k_with "lt" => ((rename AllLt _ _ => hlt9); (try dsimp only [AllLt] at hlt9); (try simp only [and_true] at hlt9); (try first | (have hz8 := AllLt.lt (hlt9)) | (have hz8 := AllLt.lt (hlt9).2) | (have hz8 := AllLt.lt (hlt9).2.2) | (have hz8 := AllLt.lt (hlt9).2.2.2) | (have hz8 := AllLt.lt (hlt9).2.2.2.2) | (have hz8 := AllLt.lt (hlt9).2.2.2.2.2) | (have hz8 := AllLt.lt (hlt9).2.2.2.2.2.2) | (have hz8 := AllLt.lt (hlt9).2.2.2.2.2.2.2) | (have hz8 := AllLt.lt (hlt9).2.2.2.2.2.2.2.2) | (have hz8 := AllLt.lt (hlt9).2.2.2.2.2.2.2.2.2) | (have hz8 := AllLt.lt (hlt9).2.2.2.2.2.2.2.2.2.2) | (have hz8 := AllLt.lt (hlt9).2.2.2.2.2.2.2.2.2.2.2) | (have hz8 := AllLt.lt (hlt9).2.2.2.2.2.2.2.2.2.2.2.2)))
  k_with "ltc" => (first | with_reducible assumption | exact And.left (by with_reducible assumption) | exact And.left (And.right (by with_reducible assumption)) | exact And.left (And.right (And.right (by with_reducible assumption))) | exact And.left (And.right (And.right (And.right (by with_reducible assumption)))) | exact And.left (And.right (And.right (And.right (And.right (by with_reducible assumption))))) | exact And.left (And.right (And.right (And.right (And.right (And.right (by with_reducible assumption)))))) | exact And.left (And.right (And.right (And.right (And.right (And.right (And.right (by with_reducible assumption))))))) | exact And.left (And.right (And.right (And.right (And.right (And.right (And.right (And.right (by with_reducible assumption)))))))) | exact And.left (And.right (And.right (And.right (And.right (And.right (And.right (And.right (And.right (by with_reducible assumption))))))))) | exact And.left (And.right (And.right (And.right (And.right (And.right (And.right (And.right (And.right (And.right (by with_reducible assumption)))))))))) | exact And.right (by with_reducible assumption) | exact And.right (And.right (by with_reducible assumption)) | exact And.right (And.right (And.right (by with_reducible assumption))) | exact And.right (And.right (And.right (And.right (by with_reducible assumption)))) | exact And.right (And.right (And.right (And.right (And.right (by with_reducible assumption))))) | exact And.right (And.right (And.right (And.right (And.right (And.right (by with_reducible assumption)))))) | exact And.right (And.right (And.right (And.right (And.right (And.right (And.right (by with_reducible assumption))))))) | exact And.right (And.right (And.right (And.right (And.right (And.right (And.right (And.right (by with_reducible assumption)))))))) | exact And.right (And.right (And.right (And.right (And.right (And.right (And.right (And.right (And.right (by with_reducible assumption))))))))) | fail "mine")
  k_with "ne" => (first | k_extra "ltc" | ((with_reducible refine' Ne.symm ?_); k_extra "ltc") | ((with_reducible refine' Nat.ne_of_gt ?_); k_extra "ltc") | ((with_reducible refine' Nat.ne_of_lt ?_); k_extra "ltc") | ((with_reducible refine' Nat.ne_of_gt (Nat.lt_succ_of_lt ?_)); k_extra "ltc") | fail "mine")
  k_with "omega" => (first | k_extra "ltc" | with_reducible decide | k_extra "ne" | k_extra "bd" | fail "mine")
  k_with "bd" => (first | with_reducible exact Mine.p7 | ((with_reducible refine' Mine.o1 ?oh ?oe); (case oh => with_reducible assumption); (case oe => exact rfl)) | ((with_reducible refine' Mine.o2 ?oh ?oe); (case oh => with_reducible assumption); (case oe => exact rfl)) | ((with_reducible refine' Mine.o3 ?oh ?oe); (case oh => with_reducible assumption); (case oe => exact rfl)) | ((with_reducible refine' Mine.o4 ?oh ?oe); (case oh => with_reducible assumption); (case oe => exact rfl)) | ((with_reducible refine' Mine.o5 ?oh ?oe); (case oh => with_reducible assumption); (case oe => exact rfl)) | ((with_reducible refine' Mine.o6 ?oh ?oe); (case oh => with_reducible assumption); (case oe => exact rfl)) | ((with_reducible refine' Mine.o7 ?oh ?oe); (case oh => with_reducible assumption); (case oe => exact rfl)) | ((with_reducible refine' Mine.p1 ?oh ?oe); (case oh => with_reducible assumption); (case oe => exact rfl)) | ((with_reducible refine' Mine.p4 ?oh ?oe); (case oh => with_reducible assumption); (case oe => exact rfl)) | ((with_reducible refine' Mine.p6 ?oh ?oe); (case oh => with_reducible assumption); (case oe => exact rfl)) | ((with_reducible refine' Mine.r6 ?oh ?oe); (case oh => with_reducible assumption); (case oe => exact rfl)) | ((with_reducible refine' Mine.r13 ?oh ?oe); (case oh => with_reducible assumption); (case oe => exact rfl)) | ((with_reducible refine' Mine.r14 ?oh ?oe); (case oh => with_reducible assumption); (case oe => exact rfl)) | ((with_reducible refine' Mine.r15 ?oh ?oe); (case oh => with_reducible assumption); (case oe => exact rfl)) | ((with_reducible refine' Mine.r18 ?oh ?oe); (case oh => with_reducible assumption); (case oe => exact rfl)) | ((with_reducible refine' Mine.r19 ?oh ?oe); (case oh => with_reducible assumption); (case oe => exact rfl)) | ((with_reducible refine' Mine.r20 ?oh ?oe); (case oh => with_reducible assumption); (case oe => exact rfl)) | ((with_reducible refine' Mine.r21 ?oh ?oe); (case oh => with_reducible assumption); (case oe => exact rfl)) | ((with_reducible refine' Mine.o8 ?og ?oh ?oe); (case og => with_reducible assumption); (case oh => with_reducible assumption); (case oe => exact rfl)) | ((with_reducible refine' Mine.o9 ?og ?oh ?oe); (case og => with_reducible assumption); (case oh => with_reducible assumption); (case oe => exact rfl)) | ((with_reducible refine' Mine.p5 ?og ?oh ?oe); (case og => with_reducible assumption); (case oh => with_reducible assumption); (case oe => exact rfl)) | ((with_reducible refine' Mine.r5 ?og ?oh ?oe); (case og => with_reducible assumption); (case oh => with_reducible assumption); (case oe => exact rfl)) | ((with_reducible refine' Mine.r1 ?og ?oh); (case og => with_reducible assumption); (case oh => with_reducible assumption)) | ((with_reducible refine' Mine.r3 ?og ?oh); (case og => with_reducible assumption); (case oh => with_reducible assumption)) | ((with_reducible refine' Nat.le_trans ?og ?oh); (case og => with_reducible assumption); (case oh => with_reducible assumption)) | ((with_reducible refine' Mine.r22 ?oh); (case oh => with_reducible assumption)) | ((with_reducible refine' Mine.r23 ?oh); (case oh => with_reducible assumption)) | ((with_reducible refine' Mine.big_lo ?oh); (case oh => with_reducible assumption)) | ((with_reducible refine' Mine.big_hi ?oh); (case oh => with_reducible assumption)) | ((with_reducible refine' Mine.big_ten ?oh); (case oh => with_reducible assumption)) | ((with_reducible refine' Int.ne_of_gt ?_); k_extra "ltc") | ((with_reducible refine' Int.le_of_lt ?_); k_extra "ltc") | with_reducible exact Int.le_refl _ | with_reducible exact Nat.le_succ _ | with_reducible exact Nat.zero_add _ | fail "mine")
  trivial
set_option maxHeartbeats 4000000 in
theorem turn_all {I a : Addr} {oI : Obj} {cd : Value} {W NA S D : Addr} {i : Nat} {ti : Tok} {m₁ : Str → Option Value} {nx : List (Addr × Obj)} {Q : Flow → Shared → Prop}
    (B : Below callerA h₀ [] h₀) (X : (hd.heap_39 w.params).In h₀) (T : TopM mean mg mb h₀) (hi : i < 14)
    (j : JL w (L + 1) W NA S D i m₁ nx) (hoff : ∀ p ∈ nx, p.1 ≠ I)
    (F : Fr h₀ L s.heap (fun y => if y = Str.ofString "turn" then some (.int (i : Nat) ti) else m₁ y)) (N : News h₀ L s.heap ((I, oI) :: nx)) :
    wpAny (model prg w) (callerA.deeper (envLaw L a cd)) (execs turnBody (envLaw L a cd)) (TurnG h₀ L (JL w (L + 1) W NA S D (i + 1)) I oI s Q) E s := by
  refine hold fun H9 hH9 => ?_
  obtain ⟨R, RR, items, last, oc, x, hc, hoc, hm⟩ := j
  refine hH9 ?_
  clear hH9 H9
  refine turn_head B X T hi F N hoff hc x hm ?_
  intro sort which value one other m₂ h₂ tk₂ Ld s0 s1 w0 w1 v0 v1 o0 o1 p0 p1 x2 hI2 hc2 hm2 hdn F2 N2
  by_cases hz : sort = 0 ∨ items = []
  · exact turn_new B X T hi v0 v1 o0 o1 p0 p1 x2 hI2 hc2 hoc hm2 hdn F2 N2 hz
  · have hz0 : sort ≠ 0 := fun e => hz (.inl e)
    have hne : items ≠ [] := fun e => hz (.inr e)
    by_cases h5 : sort = 5
    · exact turn_delete B X T hi w0 w1 v0 v1 x2 hI2 hc2 hoc hm2 hdn F2 N2 h5 hne
    · by_cases h6 : sort < 5
      · exact turn_change B X T hi w0 w1 v0 v1 x2 hI2 hc2 hoc hm2 hdn F2 N2 (Int.add_one_le_of_lt (Int.lt_iff_le_and_ne.mpr ⟨s0, Ne.symm hz0⟩)) h6 hne
      · exact turn_asks B X T hi w0 w1 v0 v1 x2 hI2 hc2 hoc hm2 hdn F2 N2 (Int.add_one_le_of_lt (Int.lt_iff_le_and_ne.mpr ⟨Int.not_lt.mp h6, Ne.symm h5⟩)) s1 hne
-- part C28
theorem words_C28 : True := by
  k_with_none
  k_with "spliced" => (refine args_nil ?_; (try dsimp only [List.cons_append, List.nil_append]))
  k_with "mem" => ((refine memL ?_); with_reducible assumption)
  k_with "all" => (first | with_reducible assumption | exact Mine.neAll (by with_reducible assumption) | fail "mine")
  k_with "put" => (first | exact put_last | exact put_rows | exact put_cond | exact put_ign | exact put_hits | exact put_on | exact put_trb | fail "mine")
  k_with "room" => (first | exact Mine.rm 0 (by exact rfl) (by with_reducible assumption) (by exact rfl) | exact Mine.rm 1 (by exact rfl) (by with_reducible assumption) (by exact rfl) | exact Mine.rm 2 (by exact rfl) (by with_reducible assumption) (by exact rfl) | exact Mine.rm 3 (by exact rfl) (by with_reducible assumption) (by exact rfl) | exact Mine.rm 4 (by exact rfl) (by with_reducible assumption) (by exact rfl) | (simp only [depth_under_make, depth_under_kw, depth_in1, depth_deeper, recursionLimit]; omega))
  k_with "size" => (first | with_reducible assumption | with_reducible exact Mine.sz0 | with_reducible exact Mine.sz1 | with_reducible exact Mine.sz2 | with_reducible exact Mine.sz3 | with_reducible exact Mine.sz4 | with_reducible exact Mine.sz5 | with_reducible exact Mine.sz6 | exact Mine.sz_lt (by with_reducible assumption) (by exact rfl) | exact Mine.sz_le (by with_reducible assumption) (by exact rfl) | fail "mine")
  k_with "lt" => ((rename AllLt _ _ => hlt9); (try dsimp only [AllLt] at hlt9); (try simp only [and_true] at hlt9); (try first | (have hz8 := AllLt.lt (hlt9)) | (have hz8 := AllLt.lt (hlt9).2) | (have hz8 := AllLt.lt (hlt9).2.2) | (have hz8 := AllLt.lt (hlt9).2.2.2) | (have hz8 := AllLt.lt (hlt9).2.2.2.2) | (have hz8 := AllLt.lt (hlt9).2.2.2.2.2) | (have hz8 := AllLt.lt (hlt9).2.2.2.2.2.2) | (have hz8 := AllLt.lt (hlt9).2.2.2.2.2.2.2) | (have hz8 := AllLt.lt (hlt9).2.2.2.2.2.2.2.2) | (have hz8 := AllLt.lt (hlt9).2.2.2.2.2.2.2.2.2) | (have hz8 := AllLt.lt (hlt9).2.2.2.2.2.2.2.2.2.2) | (have hz8 := AllLt.lt (hlt9).2.2.2.2.2.2.2.2.2.2.2) | (have hz8 := AllLt.lt (hlt9).2.2.2.2.2.2.2.2.2.2.2.2)))
  k_with "ltc" => (first | with_reducible assumption | exact And.left (by with_reducible assumption) | exact And.left (And.right (by with_reducible assumption)) | exact And.left (And.right (And.right (by with_reducible assumption))) | exact And.left (And.right (And.right (And.right (by with_reducible assumption)))) | exact And.left (And.right (And.right (And.right (And.right (by with_reducible assumption))))) | exact And.left (And.right (And.right (And.right (And.right (And.right (by with_reducible assumption)))))) | exact And.left (And.right (And.right (And.right (And.right (And.right (And.right (by with_reducible assumption))))))) | exact And.left (And.right (And.right (And.right (And.right (And.right (And.right (And.right (by with_reducible assumption)))))))) | exact And.left (And.right (And.right (And.right (And.right (And.right (And.right (And.right (And.right (by with_reducible assumption))))))))) | exact And.left (And.right (And.right (And.right (And.right (And.right (And.right (And.right (And.right (And.right (by with_reducible assumption)))))))))) | exact And.right (by with_reducible assumption) | exact And.right (And.right (by with_reducible assumption)) | exact And.right (And.right (And.right (by with_reducible assumption))) | exact And.right (And.right (And.right (And.right (by with_reducible assumption)))) | exact And.right (And.right (And.right (And.right (And.right (by with_reducible assumption))))) | exact And.right (And.right (And.right (And.right (And.right (And.right (by with_reducible assumption)))))) | exact And.right (And.right (And.right (And.right (And.right (And.right (And.right (by with_reducible assumption))))))) | exact And.right (And.right (And.right (And.right (And.right (And.right (And.right (And.right (by with_reducible assumption)))))))) | exact And.right (And.right (And.right (And.right (And.right (And.right (And.right (And.right (And.right (by with_reducible assumption))))))))) | fail "mine")
  k_with "ne" => (first | k_extra "ltc" | ((with_reducible refine' Ne.symm ?_); k_extra "ltc") | ((with_reducible refine' Nat.ne_of_gt ?_); k_extra "ltc") | ((with_reducible refine' Nat.ne_of_lt ?_); k_extra "ltc") | ((with_reducible refine' Nat.ne_of_gt (Nat.lt_succ_of_lt ?_)); k_extra "ltc") | fail "mine")
  k_with "omega" => (first | k_extra "ltc" | with_reducible decide | k_extra "ne" | k_extra "bd" | fail "mine")
  k_with "bd" => (first | with_reducible exact Mine.p7 | ((with_reducible refine' Mine.o1 ?oh ?oe); (case oh => with_reducible assumption); (case oe => exact rfl)) | ((with_reducible refine' Mine.o2 ?oh ?oe); (case oh => with_reducible assumption); (case oe => exact rfl)) | ((with_reducible refine' Mine.o3 ?oh ?oe); (case oh => with_reducible assumption); (case oe => exact rfl)) | ((with_reducible refine' Mine.o4 ?oh ?oe); (case oh => with_reducible assumption); (case oe => exact rfl)) | ((with_reducible refine' Mine.o5 ?oh ?oe); (case oh => with_reducible assumption); (case oe => exact rfl)) | ((with_reducible refine' Mine.o6 ?oh ?oe); (case oh => with_reducible assumption); (case oe => exact rfl)) | ((with_reducible refine' Mine.o7 ?oh ?oe); (case oh => with_reducible assumption); (case oe => exact rfl)) | ((with_reducible refine' Mine.p1 ?oh ?oe); (case oh => with_reducible assumption); (case oe => exact rfl)) | ((with_reducible refine' Mine.p4 ?oh ?oe); (case oh => with_reducible assumption); (case oe => exact rfl)) | ((with_reducible refine' Mine.p6 ?oh ?oe); (case oh => with_reducible assumption); (case oe => exact rfl)) | ((with_reducible refine' Mine.r6 ?oh ?oe); (case oh => with_reducible assumption); (case oe => exact rfl)) | ((with_reducible refine' Mine.r13 ?oh ?oe); (case oh => with_reducible assumption); (case oe => exact rfl)) | ((with_reducible refine' Mine.r14 ?oh ?oe); (case oh => with_reducible assumption); (case oe => exact rfl)) | ((with_reducible refine' Mine.r15 ?oh ?oe); (case oh => with_reducible assumption); (case oe => exact rfl)) | ((with_reducible refine' Mine.r18 ?oh ?oe); (case oh => with_reducible assumption); (case oe => exact rfl)) | ((with_reducible refine' Mine.r19 ?oh ?oe); (case oh => with_reducible assumption); (case oe => exact rfl)) | ((with_reducible refine' Mine.r20 ?oh ?oe); (case oh => with_reducible assumption); (case oe => exact rfl)) | ((with_reducible refine' Mine.r21 ?oh ?oe); (case oh => with_reducible assumption); (case oe => exact rfl)) | ((with_reducible refine' Mine.o8 ?og ?oh ?oe); (case og => with_reducible assumption); (case oh => with_reducible assumption); (case oe => exact rfl)) | ((with_reducible refine' Mine.o9 ?og ?oh ?oe); (case og => with_reducible assumption); (case oh => with_reducible assumption); (case oe => exact rfl)) | ((with_reducible refine' Mine.p5 ?og ?oh ?oe); (case og => with_reducible assumption); (case oh => with_reducible assumption); (case oe => exact rfl)) | ((with_reducible refine' Mine.r5 ?og ?oh ?oe); (case og => with_reducible assumption); (case oh => with_reducible assumption); (case oe => exact rfl)) | ((with_reducible refine' Mine.r1 ?og ?oh); (case og => with_reducible assumption); (case oh => with_reducible assumption)) | ((with_reducible refine' Mine.r3 ?og ?oh); (case og => with_reducible assumption); (case oh => with_reducible assumption)) | ((with_reducible refine' Nat.le_trans ?og ?oh); (case og => with_reducible assumption); (case oh => with_reducible assumption)) | ((with_reducible refine' Mine.r22 ?oh); (case oh => with_reducible assumption)) | ((with_reducible refine' Mine.r23 ?oh); (case oh => with_reducible assumption)) | ((with_reducible refine' Mine.big_lo ?oh); (case oh => with_reducible assumption)) | ((with_reducible refine' Mine.big_hi ?oh); (case oh => with_reducible assumption)) | ((with_reducible refine' Mine.big_ten ?oh); (case oh => with_reducible assumption)) | ((with_reducible refine' Int.ne_of_gt ?_); k_extra "ltc") | ((with_reducible refine' Int.le_of_lt ?_); k_extra "ltc") | with_reducible exact Int.le_refl _ | with_reducible exact Nat.le_succ _ | with_reducible exact Nat.zero_add _ | fail "mine")
  k_with "call builtin:sorted" => ((k_here; (refine' sorted_led ?F ?N ?m ?i ?b ?_; (case F => k_asm); (case N => k_asm); (case m => k_mem); (case i => k_asm); (case b => k_asm); k_whole); intro wD' wvs' wc' wh' wF' wN' wl1' wi'; (try k_lt wl1'); (try dsimp only)))
  k_with "TurnG" => (first | ((with_reducible show TurnG _ _ _ _ _ _ _ (Flow.ret _) _); dsimp only [TurnG]) | ((with_reducible show TurnG _ _ _ _ _ _ _ Flow.brk _); dsimp only [TurnG]))
  k_with "exec Assign cons ListComp" => ((k_here; k_dflt (first
  | (refine LCt.Assign_ListComp_T (F₀ := by k_asm) (by rfl) (by with_unfolding_all rfl) (by with_unfolding_all rfl) (by decide) (by rfl) (by decide) (by rfl) (by rfl) (by rfl) ?_)
  | (refine LCg.Assign_ListComp_U (F₀ := by k_asm) (by rfl) (by with_unfolding_all rfl) (by with_unfolding_all rfl) (by decide) (by rfl) (by decide) (by rfl) (by rfl) (by rfl) ?_))))
  k_with "eval ListComp" => ((k_here; k_dflt (first
  | (refine LCt.ListComp_T (F₀ := by k_asm) (by with_unfolding_all rfl) (by decide) (by rfl) (by decide) (by rfl) ?_)
  | (refine LCg.ListComp_U (F₀ := by k_asm) (by with_unfolding_all rfl) (by decide) (by rfl) (by decide) (by rfl) ?_))))
  k_with "CompSrcT" => (fail "mine: by hand")
  k_with "CompSrc" => (fail "mine: by hand")
  k_with "call builtin:len" => ((k_here; k_dflt (refine' len_led ?N ?m ?b ?_; (case N => k_asm); (case m => k_mem); (case b => first | omega | ((simp only [sxs_size, rxs_size, List.size_toArray, List.length_map, Array.size_push]); omega)); k_whole)))
  k_with "compareOp In int ref" => ((k_here; k_dflt (refine' in_led ?N ?m ?i ?_; (case N => k_asm); (case m => k_mem); (case i => k_asm); k_whole)))
  k_with "compareOp NotIn int ref" => ((k_here; k_dflt (refine' notin_led ?N ?m ?i ?_; (case N => k_asm); (case m => k_mem); (case i => k_asm); k_whole)))
  k_with "setItem ref int" => ((k_here; k_dflt (refine' kda_set (knd := PySem.intKind _ _) ?F ?N ?U ?d (intKind_is _ _ _ _) ?z ?_; (case F => k_asm); (case N => k_asm); (case U => k_updF); (case d => k_asm); (case z => k_asm)); intro wh' wo' wF' wN' whd'; (try dsimp only at wN'); (try k_sweep); (try dsimp only)))
  k_with "setItem ref str" => ((k_here; k_dflt (refine' kda_set (knd := PySem.strKind _ _) ?F ?N ?U ?d (strKind_is _ _ _ _) ?z ?_; (case F => k_asm); (case N => k_asm); (case U => k_updF); (case d => k_asm); (case z => rw [sizeLine_eq]; exact Nat.le_of_ble_eq_true (by with_unfolding_all rfl))); intro wh' wo' wF' wN' whd'; (try first | rw [stored_cond] at whd' | rw [stored_ign] at whd' | rw [stored_hits] at whd' | rw [stored_on] at whd' | rw [stored_trb] at whd'); (try dsimp only at whd'); (try dsimp only at wN'); (try k_sweep); (try dsimp only)))
  k_with "subscriptTail Name" => ((k_here; (with_reducible show wpAny _ _ (subscriptTail _ _ (Value.ref _) (Value.str _ _)) _ _ _); k_dflt (refine kda_item (knd := PySem.strKind _ _) (by k_asm) (by k_mem) (by k_asm) (strKind_is _ _ _ _) (by rfl) ?_); (try dsimp only)))
  k_with "getItem ref str" => ((k_here; k_dflt (refine kdt_getItem (knd := PySem.strKind _ _) (by k_asm) (by k_mem) (by k_asm) (strKind_is _ _ _ _) (by rfl) ?_); (try dsimp only)))
  k_with "subscriptTail" => ((k_here; (with_reducible show wpAny _ _ (subscriptTail _ _ (Value.ref _) (Value.int _ _)) _ _ _); k_dflt (first
  | (refine' item_menu menu6 6 ?N ?m ?a ?b ?c (menu6_at _ _ _ _ _ _) ?_ (by with_unfolding_all rfl); (case N => k_asm); (case m => k_mem); (case a => exact fmod_ge _ _ (by decide)); (case b => exact fmod_lt' _ _ (by decide)); (case c => decide); k_whole)
  | (refine' item_menu menu2 2 ?N ?m ?a ?b ?c (menu2_at _ _) ?_ (by with_unfolding_all rfl); (case N => k_asm); (case m => k_mem); (case a => exact fmod_ge _ _ (by decide)); (case b => exact fmod_lt' _ _ (by decide)); (case c => decide); k_whole)
  | (refine' item_menu kindOf 2 ?N ?m ?a ?b ?c (kinds_at _ _) ?_ (by with_unfolding_all rfl); (case N => k_asm); (case m => k_mem); (case a => exact fmod_ge _ _ (by decide)); (case b => exact fmod_lt' _ _ (by decide)); (case c => decide); k_whole)); intro wtz'; (try dsimp only)))
  k_with "subscriptTail Name Name" => ((k_here; (with_reducible show wpAny _ _ (subscriptTail _ _ (Value.ref _) (Value.int _ _)) _ _ _); k_dflt (refine' item_int ?N ?m ?i ?a ?b ?c ?_ (by with_unfolding_all rfl); (case N => k_asm); (case m => k_mem); (case i => k_asm); (case a => omega); (case b => first | omega | (simp only [List.size_toArray] at *; omega)); (case c => omega); k_whole); intro wtz' whz'; (try dsimp only)))
  k_with "eval Name" => ((k_here; k_dflt (refine' ld ?k1 ?k2 ?_; (case k1 => k_asm); (case k2 => assumption); k_whole)))
  k_with "call builtin:list.append" => ((k_here; (with_reducible show wpAny _ _ (call (Value.builtin _) [Value.ref _, _]) _ _ _); k_dflt (refine' append_K ?k1 ?k2 ?k3 ?_ ?z; (case k1 => k_asm); (case k2 => k_asm); (case k3 => k_upd); (case z => first | size_fits | ((rw [sizeLine_eq]; simp only [List.size_toArray]); omega)); k_whole); intro wh' wF' wN'; (try k_sweep)))
  k_with "call ref" => (((with_reducible first | show wpAny _ _ (call (Value.ref 180) _) _ _ _ | show wpAny _ _ (call (Value.ref 114) _) _ _ _ | show wpAny _ _ (call (Value.ref 166) _) _ _ _ | show wpAny _ _ (call (Value.ref 107) _) _ _ _ | show wpAny _ _ (call (Value.ref 173) _) _ _ _ | show wpAny _ _ (call (Value.ref 119) _) _ _ _ | show wpAny _ _ (call (Value.ref 206) _) _ _ _ | show wpAny _ _ (call (Value.ref 194) _) _ _ _ | show wpAny _ _ (call (Value.ref 145) _) _ _ _ | show wpAny _ _ (call (Value.ref 199) _) _ _ _); refine stopHere ?_))
  k_with "compareOp NotEq ref ref" => ((refine stopHere ?_))
  k_with "compareOp Eq ref ref" => ((refine stopHere ?_))
  k_with "binaryOp Add ref ref" => ((refine stopHere ?_))
  k_with "execs cons If cons" => ((refine stopHere ?_))
  trivial
set_option maxRecDepth 100000 in
set_option maxHeartbeats 16000000 in
theorem law_loop {a : Addr} {oc : Obj} {cd : Value} {W NA S D R RR : Addr} {Ld : List (Addr × Obj)} {Q : Flow → Shared → Prop}
    (B : Below callerA h₀ [] h₀) (X : (hd.heap_39 w.params).In h₀) (T : TopM mean mg mb h₀)
    (F : Fr h₀ L s.heap m) (N : News h₀ L s.heap Ld) (x : St w Ld [L + 1] W NA S D R RR [] 0 0 0) (hm : Nm m W S RR 0) (hc : (L + 1, oc) ∈ Ld) (hoc : ∃ v, oc.data = .cell v)
    (hE : PassesOwn (model prg w) (callerA.deeper (envLaw L a cd)) (envLaw L a cd) E)
    (h : ∀ h' tk m', Fr h₀ L h' m' → Q (.ret (.bool true)) { s with heap := h', toks := tk }) :
    wpAny (model prg w) (callerA.deeper (envLaw L a cd)) (execs ((defBody 16).drop 5) (envLaw L a cd)) Q E s := by
  unfold envLaw at *
  with_unfolding_all show wpAny _ (Around.deeper _ (envOfC _ (Scope.mk _ _ _ _ _) _ _ _)) (execs (_ :: _) (envOfC _ (Scope.mk _ _ _ _ _) _ _ _)) _ _ _
  refine hold fun H9 hH9 => ?_
  obtain ⟨carry, tw1, tw2, kw, hW, hc0, hc1⟩ := x.hW
  obtain ⟨tl, em4⟩ := hm.eq
  rw [em4] at F
  obtain ⟨nvs, nums, cn, hNA, hni, hnl, hnb⟩ := x.hNA
  refine hH9 ?_
  clear hH9 H9
  have hWNA : @Ne Nat NA W := by
    exact Ne.symm x.nwn
  all_goals try k_fold
  k_steps
  unfold Halt
  rename Addr => Z
  rename Fr h₀ L _ _ => F1
  rename News h₀ L _ _ => N1
  rename AllLt _ _ => l1
  rename (∀ p, p ∈ Ld → p.1 < Z) => hz8
  have hWZ : @Ne Nat W Z := neAll hz8 _ hW
  refine hold fun H9 hH9 => ?_
  obtain ⟨svs, hsv, N2⟩ : ∃ svs, IntsAre svs [9] ∧ News h₀ L _ ((Z, listOf (List.toArray svs) 0) :: Ld) := ⟨_, .cons 9 _ .nil, N1⟩
  refine hH9 ?_
  clear hH9 H9
  clear N1
  refine draw_spec (W := W) (NA := NA) (place := ((0 : Nat) : Int)) (carry := carry) (t1 := tw1) (t2 := tw2) (k := kw) (sizes := [9]) (rest := (Z, listOf (List.toArray svs) 0) :: del W Ld) B F1 X (newsSub N2 ?_) T rfl rfl (by decide) ?_ ?_ (List.mem_cons_of_mem _ (mem_del.mpr ⟨hNA, hWNA⟩)) hni List.mem_cons_self hsv hnb hnl (by omega) (by omega) hc0 hc1 (by decide) (by decide)
  · intro q hq
    rcases List.mem_cons.mp hq with rfl | hq
    · exact List.mem_cons_of_mem _ hW
    rcases List.mem_cons.mp hq with rfl | hq
    · exact List.mem_cons_self
    · exact List.mem_cons_of_mem _ (del_in _ hq)
  · intro h2 tk2 D2 dvs ds c' carry' ta tb F2 N3 hdi hdl hdb hcc0 hcc1 hWD hoffD
    obtain ⟨d0, td, rfl, rfl⟩ : ∃ d0 td, ds = [d0] ∧ dvs = [.int d0 td] := by
      match ds, hdl with
      | [a], _ =>
        cases hdi with | cons _ ta h1 =>
        cases h1
        exact ⟨_, _, rfl, rfl⟩
    have b1 := bnd (hdb 0 _ rfl) rfl
    clear F1 N2 hdb
    have x1 : St w ((W, listOf [Value.ref NA, .int (((0 : Nat) : Int) + 1) ta, .int carry' tb].toArray kw) :: del W Ld) [L + 1] W NA S D R RR [] (0 + 1) 0 0 :=
      x.draw List.mem_cons_self hcc0 hcc1 fun q hq hne => List.mem_cons_of_mem _ (mem_del.mpr ⟨hq, hne⟩)
    have hcW : @Ne Nat (L + 1) W := by
      exact (x.pw (.head _))
    all_goals try k_fold
    k_steps
    rename IsRange _ _ _ _ _ _ _ _ => hr
    rename Fr h₀ L _ _ => F4
    rename News h₀ L _ _ => N4
    have eb : (6 + List.getD [d0] (Int.toNat 0) 0 : Int) = 6 + d0 := rfl
    rw [eb] at hr
    have h60 : 0 < 6 + d0 := Int.lt_of_lt_of_le (by decide : (0 : Int) < 6) (Int.le_add_of_nonneg_right b1.1)
    have h61 : 6 + d0 < 1000 := Int.lt_of_lt_of_le (Int.add_lt_add_left b1.2 6) (by decide)
    refine iter_rng (n := (6 + d0).toNat) (news := (W, listOf [Value.ref NA, .int (((0 : Nat) : Int) + 1) ta, .int carry' tb].toArray kw) :: del W Ld) (fun i m' nx => JL w (L + 1) W NA S D i m' nx) rfl hr (rng_small h60 h61) (rng_size (Int.toNat_of_nonneg (Int.le_of_lt h60)).symm h60) F4 (newsSub N4 ?_) ?_ ?_ ?_
    · intro q hq
      rcases List.mem_cons.mp hq with hq | hq
      · exact hq ▸ .tail _ (.head _)
      · exact .tail _ (.tail _ (.tail _ hq))
    · exact ⟨R, RR, [], 0, oc, x1, List.mem_cons_of_mem _ (mem_del.mpr ⟨hc, hcW⟩), hoc, ⟨rfl, rfl, rfl, _, rfl⟩⟩
    · intro i t m₁ nx h5 tk5 I oI hi j hoff F5 N5
      exact turn_all B X T (Int.ofNat_lt.mp (Int.lt_of_lt_of_le (Int.lt_toNat.mp hi) (Int.add_le_add_left (show d0 ≤ 8 from Int.le_of_lt_add_one b1.2) 6))) j hoff F5 N5
    · intro m₁ nx h5 tk5 j F5 N5
      clear F4 N4
      all_goals try k_fold
      k_steps
      exact h _ _ _ F5
  · intro q hq
    rcases List.mem_cons.mp hq with rfl | hq
    · exact Ne.symm hWZ
    · exact del_off q hq
-- part C29
theorem words_C29 : True := by
  k_with_none
  k_with "spliced" => (refine args_nil ?_; (try dsimp only [List.cons_append, List.nil_append]))
  k_with "mem" => ((refine memL ?_); with_reducible assumption)
  k_with "all" => (first | with_reducible assumption | exact Mine.neAll (by with_reducible assumption) | fail "mine")
  k_with "put" => (first | exact put_last | exact put_rows | exact put_cond | exact put_ign | exact put_hits | exact put_on | exact put_trb | fail "mine")
  k_with "room" => (first | exact Mine.rm 0 (by exact rfl) (by with_reducible assumption) (by exact rfl) | exact Mine.rm 1 (by exact rfl) (by with_reducible assumption) (by exact rfl) | exact Mine.rm 2 (by exact rfl) (by with_reducible assumption) (by exact rfl) | exact Mine.rm 3 (by exact rfl) (by with_reducible assumption) (by exact rfl) | exact Mine.rm 4 (by exact rfl) (by with_reducible assumption) (by exact rfl) | (simp only [depth_under_make, depth_under_kw, depth_in1, depth_deeper, recursionLimit]; omega))
  k_with "size" => (first | with_reducible assumption | with_reducible exact Mine.sz0 | with_reducible exact Mine.sz1 | with_reducible exact Mine.sz2 | with_reducible exact Mine.sz3 | with_reducible exact Mine.sz4 | with_reducible exact Mine.sz5 | with_reducible exact Mine.sz6 | exact Mine.sz_lt (by with_reducible assumption) (by exact rfl) | exact Mine.sz_le (by with_reducible assumption) (by exact rfl) | fail "mine")
  k_with "lt" => ((rename AllLt _ _ => hlt9); (try dsimp only [AllLt] at hlt9); (try simp only [and_true] at hlt9); (try first | (have hz8 := AllLt.lt (hlt9)) | (have hz8 := AllLt.lt (hlt9).2) | (have hz8 := AllLt.lt (hlt9).2.2) | (have hz8 := AllLt.lt (hlt9).2.2.2) | (have hz8 := AllLt.lt (hlt9).2.2.2.2) | (have hz8 := AllLt.lt (hlt9).2.2.2.2.2) | (have hz8 := AllLt.lt (hlt9).2.2.2.2.2.2) | (have hz8 := AllLt.lt (hlt9).2.2.2.2.2.2.2) | (have hz8 := AllLt.lt (hlt9).2.2.2.2.2.2.2.2) | (have hz8 := AllLt.lt (hlt9).2.2.2.2.2.2.2.2.2) | (have hz8 := AllLt.lt (hlt9).2.2.2.2.2.2.2.2.2.2) | (have hz8 := AllLt.lt (hlt9).2.2.2.2.2.2.2.2.2.2.2) | (have hz8 := AllLt.lt (hlt9).2.2.2.2.2.2.2.2.2.2.2.2)))
  k_with "ltc" => (first | with_reducible assumption | exact And.left (by with_reducible assumption) | exact And.left (And.right (by with_reducible assumption)) | exact And.left (And.right (And.right (by with_reducible assumption))) | exact And.left (And.right (And.right (And.right (by with_reducible assumption)))) | exact And.left (And.right (And.right (And.right (And.right (by with_reducible assumption))))) | exact And.left (And.right (And.right (And.right (And.right (And.right (by with_reducible assumption)))))) | exact And.left (And.right (And.right (And.right (And.right (And.right (And.right (by with_reducible assumption))))))) | exact And.left (And.right (And.right (And.right (And.right (And.right (And.right (And.right (by with_reducible assumption)))))))) | exact And.left (And.right (And.right (And.right (And.right (And.right (And.right (And.right (And.right (by with_reducible assumption))))))))) | exact And.left (And.right (And.right (And.right (And.right (And.right (And.right (And.right (And.right (And.right (by with_reducible assumption)))))))))) | exact And.right (by with_reducible assumption) | exact And.right (And.right (by with_reducible assumption)) | exact And.right (And.right (And.right (by with_reducible assumption))) | exact And.right (And.right (And.right (And.right (by with_reducible assumption)))) | exact And.right (And.right (And.right (And.right (And.right (by with_reducible assumption))))) | exact And.right (And.right (And.right (And.right (And.right (And.right (by with_reducible assumption)))))) | exact And.right (And.right (And.right (And.right (And.right (And.right (And.right (by with_reducible assumption))))))) | exact And.right (And.right (And.right (And.right (And.right (And.right (And.right (And.right (by with_reducible assumption)))))))) | exact And.right (And.right (And.right (And.right (And.right (And.right (And.right (And.right (And.right (by with_reducible assumption))))))))) | fail "mine")
  k_with "ne" => (first | k_extra "ltc" | ((with_reducible refine' Ne.symm ?_); k_extra "ltc") | ((with_reducible refine' Nat.ne_of_gt ?_); k_extra "ltc") | ((with_reducible refine' Nat.ne_of_lt ?_); k_extra "ltc") | ((with_reducible refine' Nat.ne_of_gt (Nat.lt_succ_of_lt ?_)); k_extra "ltc") | fail "mine")
  k_with "omega" => (first | k_extra "ltc" | with_reducible decide | k_extra "ne" | k_extra "bd" | fail "mine")
  k_with "bd" => (first | with_reducible exact Mine.p7 | ((with_reducible refine' Mine.o1 ?oh ?oe); (case oh => with_reducible assumption); (case oe => exact rfl)) | ((with_reducible refine' Mine.o2 ?oh ?oe); (case oh => with_reducible assumption); (case oe => exact rfl)) | ((with_reducible refine' Mine.o3 ?oh ?oe); (case oh => with_reducible assumption); (case oe => exact rfl)) | ((with_reducible refine' Mine.o4 ?oh ?oe); (case oh => with_reducible assumption); (case oe => exact rfl)) | ((with_reducible refine' Mine.o5 ?oh ?oe); (case oh => with_reducible assumption); (case oe => exact rfl)) | ((with_reducible refine' Mine.o6 ?oh ?oe); (case oh => with_reducible assumption); (case oe => exact rfl)) | ((with_reducible refine' Mine.o7 ?oh ?oe); (case oh => with_reducible assumption); (case oe => exact rfl)) | ((with_reducible refine' Mine.p1 ?oh ?oe); (case oh => with_reducible assumption); (case oe => exact rfl)) | ((with_reducible refine' Mine.p4 ?oh ?oe); (case oh => with_reducible assumption); (case oe => exact rfl)) | ((with_reducible refine' Mine.p6 ?oh ?oe); (case oh => with_reducible assumption); (case oe => exact rfl)) | ((with_reducible refine' Mine.r6 ?oh ?oe); (case oh => with_reducible assumption); (case oe => exact rfl)) | ((with_reducible refine' Mine.r13 ?oh ?oe); (case oh => with_reducible assumption); (case oe => exact rfl)) | ((with_reducible refine' Mine.r14 ?oh ?oe); (case oh => with_reducible assumption); (case oe => exact rfl)) | ((with_reducible refine' Mine.r15 ?oh ?oe); (case oh => with_reducible assumption); (case oe => exact rfl)) | ((with_reducible refine' Mine.r18 ?oh ?oe); (case oh => with_reducible assumption); (case oe => exact rfl)) | ((with_reducible refine' Mine.r19 ?oh ?oe); (case oh => with_reducible assumption); (case oe => exact rfl)) | ((with_reducible refine' Mine.r20 ?oh ?oe); (case oh => with_reducible assumption); (case oe => exact rfl)) | ((with_reducible refine' Mine.r21 ?oh ?oe); (case oh => with_reducible assumption); (case oe => exact rfl)) | ((with_reducible refine' Mine.o8 ?og ?oh ?oe); (case og => with_reducible assumption); (case oh => with_reducible assumption); (case oe => exact rfl)) | ((with_reducible refine' Mine.o9 ?og ?oh ?oe); (case og => with_reducible assumption); (case oh => with_reducible assumption); (case oe => exact rfl)) | ((with_reducible refine' Mine.p5 ?og ?oh ?oe); (case og => with_reducible assumption); (case oh => with_reducible assumption); (case oe => exact rfl)) | ((with_reducible refine' Mine.r5 ?og ?oh ?oe); (case og => with_reducible assumption); (case oh => with_reducible assumption); (case oe => exact rfl)) | ((with_reducible refine' Mine.r1 ?og ?oh); (case og => with_reducible assumption); (case oh => with_reducible assumption)) | ((with_reducible refine' Mine.r3 ?og ?oh); (case og => with_reducible assumption); (case oh => with_reducible assumption)) | ((with_reducible refine' Nat.le_trans ?og ?oh); (case og => with_reducible assumption); (case oh => with_reducible assumption)) | ((with_reducible refine' Mine.r22 ?oh); (case oh => with_reducible assumption)) | ((with_reducible refine' Mine.r23 ?oh); (case oh => with_reducible assumption)) | ((with_reducible refine' Mine.big_lo ?oh); (case oh => with_reducible assumption)) | ((with_reducible refine' Mine.big_hi ?oh); (case oh => with_reducible assumption)) | ((with_reducible refine' Mine.big_ten ?oh); (case oh => with_reducible assumption)) | ((with_reducible refine' Int.ne_of_gt ?_); k_extra "ltc") | ((with_reducible refine' Int.le_of_lt ?_); k_extra "ltc") | with_reducible exact Int.le_refl _ | with_reducible exact Nat.le_succ _ | with_reducible exact Nat.zero_add _ | fail "mine")
  k_with "call builtin:sorted" => ((k_here; (refine' sorted_led ?F ?N ?m ?i ?b ?_; (case F => k_asm); (case N => k_asm); (case m => k_mem); (case i => k_asm); (case b => k_asm); k_whole); intro wD' wvs' wc' wh' wF' wN' wl1' wi'; (try k_lt wl1'); (try dsimp only)))
  k_with "TurnG" => (first | ((with_reducible show TurnG _ _ _ _ _ _ _ (Flow.ret _) _); dsimp only [TurnG]) | ((with_reducible show TurnG _ _ _ _ _ _ _ Flow.brk _); dsimp only [TurnG]))
  k_with "call builtin:len" => ((k_here; k_dflt (refine' len_led ?N ?m ?b ?_; (case N => k_asm); (case m => k_mem); (case b => first | omega | ((simp only [sxs_size, rxs_size, List.size_toArray, List.length_map, Array.size_push]); omega)); k_whole)))
  k_with "compareOp In int ref" => ((k_here; k_dflt (refine' in_led ?N ?m ?i ?_; (case N => k_asm); (case m => k_mem); (case i => k_asm); k_whole)))
  k_with "compareOp NotIn int ref" => ((k_here; k_dflt (refine' notin_led ?N ?m ?i ?_; (case N => k_asm); (case m => k_mem); (case i => k_asm); k_whole)))
  k_with "setItem ref int" => ((k_here; k_dflt (refine' kda_set (knd := PySem.intKind _ _) ?F ?N ?U ?d (intKind_is _ _ _ _) ?z ?_; (case F => k_asm); (case N => k_asm); (case U => k_updF); (case d => k_asm); (case z => k_asm)); intro wh' wo' wF' wN' whd'; (try dsimp only at wN'); (try k_sweep); (try dsimp only)))
  k_with "setItem ref str" => ((k_here; k_dflt (refine' kda_set (knd := PySem.strKind _ _) ?F ?N ?U ?d (strKind_is _ _ _ _) ?z ?_; (case F => k_asm); (case N => k_asm); (case U => k_updF); (case d => k_asm); (case z => rw [sizeLine_eq]; exact Nat.le_of_ble_eq_true (by with_unfolding_all rfl))); intro wh' wo' wF' wN' whd'; (try first | rw [stored_cond] at whd' | rw [stored_ign] at whd' | rw [stored_hits] at whd' | rw [stored_on] at whd' | rw [stored_trb] at whd'); (try dsimp only at whd'); (try dsimp only at wN'); (try k_sweep); (try dsimp only)))
  k_with "subscriptTail Name" => ((k_here; (with_reducible show wpAny _ _ (subscriptTail _ _ (Value.ref _) (Value.str _ _)) _ _ _); k_dflt (refine kda_item (knd := PySem.strKind _ _) (by k_asm) (by k_mem) (by k_asm) (strKind_is _ _ _ _) (by rfl) ?_); (try dsimp only)))
  k_with "getItem ref str" => ((k_here; k_dflt (refine kdt_getItem (knd := PySem.strKind _ _) (by k_asm) (by k_mem) (by k_asm) (strKind_is _ _ _ _) (by rfl) ?_); (try dsimp only)))
  k_with "subscriptTail" => ((k_here; (with_reducible show wpAny _ _ (subscriptTail _ _ (Value.ref _) (Value.int _ _)) _ _ _); k_dflt (first
  | (refine' item_menu menu6 6 ?N ?m ?a ?b ?c (menu6_at _ _ _ _ _ _) ?_ (by with_unfolding_all rfl); (case N => k_asm); (case m => k_mem); (case a => exact fmod_ge _ _ (by decide)); (case b => exact fmod_lt' _ _ (by decide)); (case c => decide); k_whole)
  | (refine' item_menu menu2 2 ?N ?m ?a ?b ?c (menu2_at _ _) ?_ (by with_unfolding_all rfl); (case N => k_asm); (case m => k_mem); (case a => exact fmod_ge _ _ (by decide)); (case b => exact fmod_lt' _ _ (by decide)); (case c => decide); k_whole)
  | (refine' item_menu kindOf 2 ?N ?m ?a ?b ?c (kinds_at _ _) ?_ (by with_unfolding_all rfl); (case N => k_asm); (case m => k_mem); (case a => exact fmod_ge _ _ (by decide)); (case b => exact fmod_lt' _ _ (by decide)); (case c => decide); k_whole)); intro wtz'; (try dsimp only)))
  k_with "subscriptTail Name Name" => ((k_here; (with_reducible show wpAny _ _ (subscriptTail _ _ (Value.ref _) (Value.int _ _)) _ _ _); k_dflt (refine' item_int ?N ?m ?i ?a ?b ?c ?_ (by with_unfolding_all rfl); (case N => k_asm); (case m => k_mem); (case i => k_asm); (case a => omega); (case b => first | omega | (simp only [List.size_toArray] at *; omega)); (case c => omega); k_whole); intro wtz' whz'; (try dsimp only)))
  k_with "eval Name" => ((k_here; k_dflt (refine' ld ?k1 ?k2 ?_; (case k1 => k_asm); (case k2 => assumption); k_whole)))
  k_with "call builtin:list.append" => ((k_here; (with_reducible show wpAny _ _ (call (Value.builtin _) [Value.ref _, _]) _ _ _); k_dflt (refine' append_K ?k1 ?k2 ?k3 ?_ ?z; (case k1 => k_asm); (case k2 => k_asm); (case k3 => k_upd); (case z => first | size_fits | ((rw [sizeLine_eq]; simp only [List.size_toArray]); omega)); k_whole); intro wh' wF' wN'; (try k_sweep)))
  k_with "call ref" => (((with_reducible first | show wpAny _ _ (call (Value.ref 180) _) _ _ _ | show wpAny _ _ (call (Value.ref 114) _) _ _ _ | show wpAny _ _ (call (Value.ref 166) _) _ _ _ | show wpAny _ _ (call (Value.ref 107) _) _ _ _ | show wpAny _ _ (call (Value.ref 173) _) _ _ _ | show wpAny _ _ (call (Value.ref 119) _) _ _ _ | show wpAny _ _ (call (Value.ref 206) _) _ _ _ | show wpAny _ _ (call (Value.ref 194) _) _ _ _ | show wpAny _ _ (call (Value.ref 145) _) _ _ _ | show wpAny _ _ (call (Value.ref 199) _) _ _ _); refine stopHere ?_))
  k_with "compareOp NotEq ref ref" => ((refine stopHere ?_))
  k_with "compareOp Eq ref ref" => ((refine stopHere ?_))
  k_with "binaryOp Add ref ref" => ((refine stopHere ?_))
  k_with "execs cons If cons" => ((refine stopHere ?_))
  k_with "execs cons For cons" => ((refine stopHere ?_))
  trivial
theorem st_init {RR R S D W NA SL c : Addr} {oc oS : Obj} {k0 k1 t t1 t2 : Tok} {a b n k kc : Nat} {ys : List Value} {ns : List Int}
    (lRR : R < RR ∧ S < RR ∧ D < RR ∧ W < RR ∧ NA < RR ∧ SL < RR ∧ c < RR) (lR : S < R ∧ D < R ∧ W < R ∧ NA < R ∧ SL < R ∧ c < R) (lS : D < S) (lD : W < D ∧ NA < D ∧ SL < D ∧ c < D) (lW : NA < W ∧ SL < W ∧ c < W) (lNA : SL ≠ NA ∧ c ≠ NA)
    (hi : IntsAre ys ns) (hl : ns.length ≤ 15) (hb : ∀ x ∈ ns, 0 ≤ x ∧ x < 2305843009213693951) :
    St w [(RR, listOf [].toArray a), (R, listOf [].toArray b), (S, instObj 148 D), (D, dictOf (stopsEs w.params k0 k1 R 0 t) n), (W, listOf [Value.ref NA, .int 0 t1, .int 17 t2].toArray k), (NA, listOf ys.toArray kc), (SL, oS), (c, oc)] [c] W NA S D R RR [] 0 0 0 := by
  refine ⟨?_, (fun _ h => nomatch h), (fun _ h => nomatch h), (fun _ h => nomatch h), (fun _ h => nomatch h), ⟨17, t1, t2, k, .tail _ (.tail _ (.tail _ (.tail _ (.head _)))), by decide, by decide⟩, ⟨ys, ns, kc, .tail _ (.tail _ (.tail _ (.tail _ (.tail _ (.head _))))), hi, hl, hb⟩, .tail _ (.tail _ (.head _)), ⟨k0, k1, t, n, .tail _ (.tail _ (.tail _ (.head _)))⟩, ⟨b, ?_⟩, ⟨a, ?_⟩, (fun x hx => ⟨oc, List.mem_singleton.mp hx ▸ .tail _ (.tail _ (.tail _ (.tail _ (.tail _ (.tail _ (.tail _ (.head _)))))))⟩), (fun _ h => nomatch h), (fun _ h => nomatch h), Nat.zero_le _, by decide, by decide⟩
  · obtain ⟨r1, r2, r3, r4, r5, r6, r7⟩ := lRR
    refine hold fun H9 hH9 => ?_
    obtain ⟨q1, q2, q3, q4, q5, q6⟩ := lR
    obtain ⟨d1, d2, d3, d4⟩ := lD
    obtain ⟨w1, w2, w3⟩ := lW
    refine hH9 ?_
    clear hH9 H9
    have lt : ∀ {x y : Addr}, x < y → @Ne Nat x y := fun h => Nat.ne_of_lt h
    have gt : ∀ {x y : Addr}, x < y → @Ne Nat y x := fun h => Nat.ne_of_gt h
    exact List.nodup_cons.mpr ⟨nin_cons (lt r1) (nin_cons (gt q3) (nin_cons (gt q4) (nin_cons (gt q1) (nin_cons (gt q2) (nin_cons (gt q6) nin_nil))))),
      List.nodup_cons.mpr ⟨nin_cons (gt r4) (nin_cons (gt r5) (nin_cons (gt r2) (nin_cons (gt r3) (nin_cons (gt r7) nin_nil)))),
      List.nodup_cons.mpr ⟨nin_cons (gt w1) (nin_cons (lt (Nat.lt_trans d1 lS)) (nin_cons (lt d1) (nin_cons (gt w3) nin_nil))),
      List.nodup_cons.mpr ⟨nin_cons (lt (Nat.lt_trans d2 lS)) (nin_cons (lt d2) (nin_cons (Ne.symm lNA.2) nin_nil)),
      List.nodup_cons.mpr ⟨nin_cons (gt lS) (nin_cons (gt (Nat.lt_trans d4 lS)) nin_nil),
      List.nodup_cons.mpr ⟨nin_cons (gt d4) nin_nil, List.nodup_cons.mpr ⟨nin_nil, List.nodup_nil⟩⟩⟩⟩⟩⟩⟩
  · exact List.mem_cons_of_mem _ List.mem_cons_self
  · exact List.mem_cons_self
set_option maxRecDepth 100000 in
set_option maxHeartbeats 16000000 in
theorem law_body {a sc : Addr} {oc : Obj} {cd : Value} {svs : List Value} {sns : List Int} {Q : Flow → Shared → Prop}
    (B : Below callerA h₀ [] h₀) (X : (hd.heap_39 w.params).In h₀) (T : TopM mean mg mb h₀)
    (F : Fr h₀ L s.heap (bindL (envLaw L a cd).kindOf [(Str.ofString "script", .ref sc)] fun _ => none)) (N : News h₀ L s.heap [(L + 1, oc)]) (hoc : ∃ v, oc.data = .cell v)
    (hL : h₀.IsList sc (List.toArray svs)) (hI : IntsAre svs sns) (hlen : sns.length ≤ 63) (hE : PassesOwn (model prg w) (callerA.deeper (envLaw L a cd)) (envLaw L a cd) E)
    (h : ∀ h' tk m', Fr h₀ L h' m' → Q (.ret (.bool true)) { s with heap := h', toks := tk }) :
    wpAny (model prg w) (callerA.deeper (envLaw L a cd)) (execs (defBody 16) (envLaw L a cd)) Q E s := by
  unfold envLaw at *
  with_unfolding_all show wpAny _ (Around.deeper _ (envOfC _ (Scope.mk _ _ _ _ _) _ _ _)) (execs (_ :: _) (envOfC _ (Scope.mk _ _ _ _ _) _ _ _)) _ _ _
  all_goals try k_fold
  k_steps
  unfold Halt
  rename Fr h₀ L _ _ => F1
  rename News h₀ L _ _ => N1
  dsimp only at N1
  rename (_ < _ ∧ _ < _ ∧ _ < _ ∧ _ < _ ∧ _ < _ ∧ _ < _ ∧ _ < _) => lRR
  rename (_ < _ ∧ _ < _ ∧ _ < _ ∧ _ < _ ∧ _ < _ ∧ _ < _) => lR
  rename (_ < _ ∧ _ < _ ∧ _ < _ ∧ _ < _) => lD
  rename (_ < _ ∧ _ < _ ∧ _ < _) => lW
  rename (_ ≠ _ ∧ _ ≠ _) => lNA
  rename IntsAre _ (List.map _ _) => hNI
  rename (_ : Addr) < (_ : Addr) => lS
  refine law_loop B X T F1 N1 (st_init lRR lR lS lD lW lNA hNI ?_ ?_) ⟨rfl, rfl, rfl, _, rfl⟩ (.tail _ (.tail _ (.tail _ (.tail _ (.tail _ (.tail _ (.tail _ (.head _)))))))) hoc hE h
  · rw [List.length_map, List.length_take]; exact Nat.min_le_left _ _
  · intro x hx
    obtain ⟨y, _, rfl⟩ := List.mem_map.mp hx
    exact ⟨fmod_ge _ _ (by decide), fmod_lt' _ _ (by decide)⟩
-- part C30
theorem words_C30 : True := by
  k_with_none
  k_with "spliced" => (refine args_nil ?_; (try dsimp only [List.cons_append, List.nil_append]))
  k_with "mem" => ((refine memL ?_); with_reducible assumption)
  k_with "all" => (first | with_reducible assumption | exact Mine.neAll (by with_reducible assumption) | fail "mine")
  k_with "put" => (first | exact put_last | exact put_rows | exact put_cond | exact put_ign | exact put_hits | exact put_on | exact put_trb | fail "mine")
  k_with "room" => (first | exact Mine.rm 0 (by exact rfl) (by with_reducible assumption) (by exact rfl) | exact Mine.rm 1 (by exact rfl) (by with_reducible assumption) (by exact rfl) | exact Mine.rm 2 (by exact rfl) (by with_reducible assumption) (by exact rfl) | exact Mine.rm 3 (by exact rfl) (by with_reducible assumption) (by exact rfl) | exact Mine.rm 4 (by exact rfl) (by with_reducible assumption) (by exact rfl) | (simp only [depth_under_make, depth_under_kw, depth_in1, depth_deeper, recursionLimit]; omega))
  k_with "size" => (first | with_reducible assumption | with_reducible exact Mine.sz0 | with_reducible exact Mine.sz1 | with_reducible exact Mine.sz2 | with_reducible exact Mine.sz3 | with_reducible exact Mine.sz4 | with_reducible exact Mine.sz5 | with_reducible exact Mine.sz6 | exact Mine.sz_lt (by with_reducible assumption) (by exact rfl) | exact Mine.sz_le (by with_reducible assumption) (by exact rfl) | fail "mine")
  k_with "lt" => ((rename AllLt _ _ => hlt9); (try dsimp only [AllLt] at hlt9); (try simp only [and_true] at hlt9); (try first | (have hz8 := AllLt.lt (hlt9)) | (have hz8 := AllLt.lt (hlt9).2) | (have hz8 := AllLt.lt (hlt9).2.2) | (have hz8 := AllLt.lt (hlt9).2.2.2) | (have hz8 := AllLt.lt (hlt9).2.2.2.2) | (have hz8 := AllLt.lt (hlt9).2.2.2.2.2) | (have hz8 := AllLt.lt (hlt9).2.2.2.2.2.2) | (have hz8 := AllLt.lt (hlt9).2.2.2.2.2.2.2) | (have hz8 := AllLt.lt (hlt9).2.2.2.2.2.2.2.2) | (have hz8 := AllLt.lt (hlt9).2.2.2.2.2.2.2.2.2) | (have hz8 := AllLt.lt (hlt9).2.2.2.2.2.2.2.2.2.2) | (have hz8 := AllLt.lt (hlt9).2.2.2.2.2.2.2.2.2.2.2) | (have hz8 := AllLt.lt (hlt9).2.2.2.2.2.2.2.2.2.2.2.2)))
  k_with "ltc" => (first | with_reducible assumption | exact And.left (by with_reducible assumption) | exact And.left (And.right (by with_reducible assumption)) | exact And.left (And.right (And.right (by with_reducible assumption))) | exact And.left (And.right (And.right (And.right (by with_reducible assumption)))) | exact And.left (And.right (And.right (And.right (And.right (by with_reducible assumption))))) | exact And.left (And.right (And.right (And.right (And.right (And.right (by with_reducible assumption)))))) | exact And.left (And.right (And.right (And.right (And.right (And.right (And.right (by with_reducible assumption))))))) | exact And.left (And.right (And.right (And.right (And.right (And.right (And.right (And.right (by with_reducible assumption)))))))) | exact And.left (And.right (And.right (And.right (And.right (And.right (And.right (And.right (And.right (by with_reducible assumption))))))))) | exact And.left (And.right (And.right (And.right (And.right (And.right (And.right (And.right (And.right (And.right (by with_reducible assumption)))))))))) | exact And.right (by with_reducible assumption) | exact And.right (And.right (by with_reducible assumption)) | exact And.right (And.right (And.right (by with_reducible assumption))) | exact And.right (And.right (And.right (And.right (by with_reducible assumption)))) | exact And.right (And.right (And.right (And.right (And.right (by with_reducible assumption))))) | exact And.right (And.right (And.right (And.right (And.right (And.right (by with_reducible assumption)))))) | exact And.right (And.right (And.right (And.right (And.right (And.right (And.right (by with_reducible assumption))))))) | exact And.right (And.right (And.right (And.right (And.right (And.right (And.right (And.right (by with_reducible assumption)))))))) | exact And.right (And.right (And.right (And.right (And.right (And.right (And.right (And.right (And.right (by with_reducible assumption))))))))) | fail "mine")
  k_with "ne" => (first | k_extra "ltc" | ((with_reducible refine' Ne.symm ?_); k_extra "ltc") | ((with_reducible refine' Nat.ne_of_gt ?_); k_extra "ltc") | ((with_reducible refine' Nat.ne_of_lt ?_); k_extra "ltc") | ((with_reducible refine' Nat.ne_of_gt (Nat.lt_succ_of_lt ?_)); k_extra "ltc") | fail "mine")
  k_with "omega" => (first | k_extra "ltc" | with_reducible decide | k_extra "ne" | k_extra "bd" | fail "mine")
  k_with "bd" => (first | with_reducible exact Mine.p7 | ((with_reducible refine' Mine.o1 ?oh ?oe); (case oh => with_reducible assumption); (case oe => exact rfl)) | ((with_reducible refine' Mine.o2 ?oh ?oe); (case oh => with_reducible assumption); (case oe => exact rfl)) | ((with_reducible refine' Mine.o3 ?oh ?oe); (case oh => with_reducible assumption); (case oe => exact rfl)) | ((with_reducible refine' Mine.o4 ?oh ?oe); (case oh => with_reducible assumption); (case oe => exact rfl)) | ((with_reducible refine' Mine.o5 ?oh ?oe); (case oh => with_reducible assumption); (case oe => exact rfl)) | ((with_reducible refine' Mine.o6 ?oh ?oe); (case oh => with_reducible assumption); (case oe => exact rfl)) | ((with_reducible refine' Mine.o7 ?oh ?oe); (case oh => with_reducible assumption); (case oe => exact rfl)) | ((with_reducible refine' Mine.p1 ?oh ?oe); (case oh => with_reducible assumption); (case oe => exact rfl)) | ((with_reducible refine' Mine.p4 ?oh ?oe); (case oh => with_reducible assumption); (case oe => exact rfl)) | ((with_reducible refine' Mine.p6 ?oh ?oe); (case oh => with_reducible assumption); (case oe => exact rfl)) | ((with_reducible refine' Mine.r6 ?oh ?oe); (case oh => with_reducible assumption); (case oe => exact rfl)) | ((with_reducible refine' Mine.r13 ?oh ?oe); (case oh => with_reducible assumption); (case oe => exact rfl)) | ((with_reducible refine' Mine.r14 ?oh ?oe); (case oh => with_reducible assumption); (case oe => exact rfl)) | ((with_reducible refine' Mine.r15 ?oh ?oe); (case oh => with_reducible assumption); (case oe => exact rfl)) | ((with_reducible refine' Mine.r18 ?oh ?oe); (case oh => with_reducible assumption); (case oe => exact rfl)) | ((with_reducible refine' Mine.r19 ?oh ?oe); (case oh => with_reducible assumption); (case oe => exact rfl)) | ((with_reducible refine' Mine.r20 ?oh ?oe); (case oh => with_reducible assumption); (case oe => exact rfl)) | ((with_reducible refine' Mine.r21 ?oh ?oe); (case oh => with_reducible assumption); (case oe => exact rfl)) | ((with_reducible refine' Mine.o8 ?og ?oh ?oe); (case og => with_reducible assumption); (case oh => with_reducible assumption); (case oe => exact rfl)) | ((with_reducible refine' Mine.o9 ?og ?oh ?oe); (case og => with_reducible assumption); (case oh => with_reducible assumption); (case oe => exact rfl)) | ((with_reducible refine' Mine.p5 ?og ?oh ?oe); (case og => with_reducible assumption); (case oh => with_reducible assumption); (case oe => exact rfl)) | ((with_reducible refine' Mine.r5 ?og ?oh ?oe); (case og => with_reducible assumption); (case oh => with_reducible assumption); (case oe => exact rfl)) | ((with_reducible refine' Mine.r1 ?og ?oh); (case og => with_reducible assumption); (case oh => with_reducible assumption)) | ((with_reducible refine' Mine.r3 ?og ?oh); (case og => with_reducible assumption); (case oh => with_reducible assumption)) | ((with_reducible refine' Nat.le_trans ?og ?oh); (case og => with_reducible assumption); (case oh => with_reducible assumption)) | ((with_reducible refine' Mine.r22 ?oh); (case oh => with_reducible assumption)) | ((with_reducible refine' Mine.r23 ?oh); (case oh => with_reducible assumption)) | ((with_reducible refine' Mine.big_lo ?oh); (case oh => with_reducible assumption)) | ((with_reducible refine' Mine.big_hi ?oh); (case oh => with_reducible assumption)) | ((with_reducible refine' Mine.big_ten ?oh); (case oh => with_reducible assumption)) | ((with_reducible refine' Int.ne_of_gt ?_); k_extra "ltc") | ((with_reducible refine' Int.le_of_lt ?_); k_extra "ltc") | with_reducible exact Int.le_refl _ | with_reducible exact Nat.le_succ _ | with_reducible exact Nat.zero_add _ | fail "mine")
  trivial
set_option maxRecDepth 100000 in
set_option maxHeartbeats 8000000 in
theorem lawT : PySem.Challenge.rw_og0202_01.Holds := hd (by
  k_go0
  rename IntsAre _ _ => hI
  rename Fr _ _ _ _ => F1
  rename News _ _ _ _ => N1
  rename Heap.IsList _ _ _ => hL
  rename ¬ ((_ : Int) < _) => hlen
  rename Below _ _ _ _ => B1
  rename Frag.In _ _ => X1
  rename Obj.data _ = _ => hoc
  rename Top _ _ _ _ _ _ => T1
  refine law_body B1 X1 T1 F1 N1 ⟨_, hoc⟩ hL hI (by omega) (by passes_own) ?_
  intro h' tk m' F2
  dsimp only
  wrow_close)
end
end Mine
theorem PySem.Challenge.cw_og0202_01_holds : PySem.Challenge.rw_og0202_01.Holds := by
  exact Mine.lawT
