import Derived.Test.YtneokajhmonpaaaDoorChains1
import Derived.MapKept
import Derived.Lib.Overlaps
import Derived.Laws.Externs
import Derived.RangeFuncRecord
import Derived.OrdersIn
import Derived.TacticsIn
import Derived.RangeFuncSeq
import Derived.ReadAgain
import Derived.OpenShut
import Derived.MakeChecks
import Derived.ProofKit
import Derived.LaidMore
import Derived.ChangeSame
import Derived.Deep.Slices
import Derived.Test.YtneokajhmonpaaaDoorChecked
/- A part of the proofs of the statements about the chartroom program (YtneokajhmonpaaaDoor): the walk and the plain law. -/
set_option linter.unusedSimpArgs false
set_option linter.unusedVariables false
/-! Plain: what the layers 3 to 5 reckon. -/
namespace Go.W
open Go Go.RowKit
noncomputable def expP (x k : Int) : Int × Int := (kept (if inG x then (if 0 ≤ k ∧ k < 2305843009213688669 then ((pw x.toNat k.toNat : Int), 0) else (0, 1)) else (0, 40))).1
theorem expP_def (x k : Int) : expP x k = (if inG x then (if 0 ≤ k ∧ k < 2305843009213688669 then ((pw x.toNat k.toNat : Int), 0) else (0, 1)) else (0, 40)) := (kept _).2
noncomputable def baseP (k : Int) : Int × Int := (kept (if 0 ≤ k ∧ k < 2305843009213688669 then ((pw 4 k.toNat : Int), 0) else (0, 1))).1
theorem baseP_def (k : Int) : baseP k = (if 0 ≤ k ∧ k < 2305843009213688669 then ((pw 4 k.toNat : Int), 0) else (0, 1)) := (kept _).2
theorem expP_base (k : Int) : expP 4 k = baseP k := by simp [expP_def, baseP_def, inG4]
noncomputable def mulP (x y : Int) : Int × Int := (kept (if inG x ∧ inG y then (((x.toNat * y.toNat % 4611686018427377339 : Nat) : Int), 0) else (0, 40))).1
theorem mulP_def (x y : Int) : mulP x y = (if inG x ∧ inG y then (((x.toNat * y.toNat % 4611686018427377339 : Nat) : Int), 0) else (0, 40)) := (kept _).2
noncomputable def fMulP (x y : Int) : Int × Int := (kept (if badQ x ∨ badQ y then (0, 1) else (x * y % 2305843009213688669, 0))).1
theorem fMulP_def (x y : Int) : fMulP x y = (if badQ x ∨ badQ y then (0, 1) else (x * y % 2305843009213688669, 0)) := (kept _).2
noncomputable def fAddP (x y : Int) : Int × Int := (kept (if badQ x ∨ badQ y then (0, 1) else ((x + y) % 2305843009213688669, 0))).1
theorem fAddP_def (x y : Int) : fAddP x y = (if badQ x ∨ badQ y then (0, 1) else ((x + y) % 2305843009213688669, 0)) := (kept _).2
/-- An int's bytes. -/
def u64N (n : Int) : Nat := (n % 18446744073709551616).toNat
theorem u64N_lt (n : Int) : u64N n < 18446744073709551616 := by unfold u64N; omega
theorem wrap_u64N (n : Int) : IntKind.u64.wrap n = (u64N n : Int) := by
  unfold IntKind.wrap u64N
  simp only [show IntKind.u64.signed = false from rfl, Bool.false_and]
  have : (2 : Int) ^ IntKind.u64.bits = 18446744073709551616 := by decide
  rw [this]
  simp
  omega
def be8 (n : Int) : List UInt8 := beB 8 (u64N n)
def bes (ns : List Int) (k : Nat) : List UInt8 := (ns.take k).flatMap be8
theorem bes_succ {ns : List Int} {k : Nat} (h : k < ns.length) : bes ns (k + 1) = bes ns k ++ be8 ns[k] := by
  unfold bes
  rw [List.take_succ_eq_append_getElem h, List.flatMap_append]
  simp
theorem bes_length (ns : List Int) : ∀ k, k ≤ ns.length → (bes ns k).length = 8 * k
  | 0, _ => by simp [bes]
  | k + 1, h => by rw [bes_succ (by omega), List.length_append, bes_length ns k (by omega)]; simp [be8, beB_length]; omega
theorem beB_take_succ (n j : Nat) (h : j < 8) : (beB 8 n).take (j + 1) = (beB 8 n).take j ++ [UInt8.ofNat (n / 2 ^ (56 - 8 * j))] := by
  rw [List.take_succ_eq_append_getElem (by rw [beB_length]; exact h)]
  congr 2
  simp only [beB, List.getElem_map, List.getElem_range]
  rw [show 8 * (8 - 1 - j) = 56 - 8 * j by omega]
noncomputable def hashN (tag msg : List UInt8) (ns : List Int) : Nat := (kept (scalarN tag (bes ns ns.length ++ msg))).1
theorem hashN_def (tag msg : List UInt8) (ns : List Int) : hashN tag msg ns = scalarN tag (bes ns ns.length ++ msg) := (kept _).2
theorem hashN_range (tag msg : List UInt8) (ns : List Int) : 1 ≤ hashN tag msg ns ∧ hashN tag msg ns < 2305843009213688669 := by rw [hashN_def]; exact scalarN_range _ _
abbrev tNonce : List UInt8 := [110, 111, 110, 99, 101]
abbrev tSign : List UInt8 := [115, 105, 103, 110]
noncomputable def keyOk (x : Int) : Bool := (kept (decide (1 ≤ x ∧ x < 2305843009213688669))).1
theorem keyOk_def (x : Int) : keyOk x = decide (1 ≤ x ∧ x < 2305843009213688669) := (kept _).2
noncomputable def pubP (x : Int) : Int × Int := if keyOk x then ((baseP x).1, 0) else (0, 50)
theorem pubP_no {x : Int} (h : ¬ (1 ≤ x ∧ x < 2305843009213688669)) : pubP x = (0, 50) := by rw [pubP, keyOk_def, decide_eq_false h]; rfl
theorem pubP_yes {x : Int} (h : 1 ≤ x ∧ x < 2305843009213688669) : pubP x = ((baseP x).1, 0) := by rw [pubP, keyOk_def, decide_eq_true h]; rfl
/-- The signature: R, S, the error. -/
noncomputable def sigR (x : Int) (msg : List UInt8) : Int := (baseP (hashN tNonce msg [x])).1
noncomputable def sigM (x : Int) (msg : List UInt8) : Int := (fMulP (hashN tSign msg [sigR x msg, (baseP x).1]) x).1
noncomputable def sigP (x : Int) (msg : List UInt8) : (Int × Int) × Int := if keyOk x then ((sigR x msg, (fAddP (hashN tNonce msg [x]) (sigM x msg)).1), (fAddP (hashN tNonce msg [x]) (sigM x msg)).2) else ((0, 0), 50)
noncomputable def verP (pub : Int) (msg : List UInt8) (R S : Int) : Bool :=
  inG pub && inG R && !badQ S && decide ((baseP S).1 = (mulP R (expP pub (hashN tSign msg [R, pub])).1).1)
theorem verP_no {pub : Int} {msg : List UInt8} {R S : Int} (h : ¬ ([if inG pub then 0 else 40, if inG R then 0 else 40, if badQ S then 1 else 0] : List Int) = [0, 0, 0]) : verP pub msg R S = false := by
  unfold verP
  cases h1 : inG pub <;> cases h2 : inG R <;> cases h3 : badQ S <;> simp_all
theorem verP_yes {pub : Int} {msg : List UInt8} {R S : Int} (h : ([if inG pub then 0 else 40, if inG R then 0 else 40, if badQ S then 1 else 0] : List Int) = [0, 0, 0]) :
    verP pub msg R S = decide ((baseP S).1 = (mulP R (expP pub (hashN tSign msg [R, pub])).1).1) := by
  unfold verP
  cases h1 : inG pub <;> cases h2 : inG R <;> cases h3 : badQ S <;> simp_all
theorem sigP_no {x : Int} {msg : List UInt8} (h : ¬ (1 ≤ x ∧ x < 2305843009213688669)) : sigP x msg = ((0, 0), 50) := by
  unfold sigP
  rw [show keyOk x = false by rw [keyOk_def]; exact decide_eq_false h]
  rfl
theorem sigR_eq {x : Int} {msg : List UInt8} {k : Nat} {R : Int} (hk : hashN tNonce msg [x] = k) (hR : (baseP k).1 = R) : sigR x msg = R := by
  rw [sigR, hk]; exact hR
theorem sigM_eq {x : Int} {msg : List UInt8} {R c m : Int} (hR : sigR x msg = R) (hc : (hashN tSign msg [R, (baseP x).1] : Int) = c) (hm : (fMulP c x).1 = m) : sigM x msg = m := by
  rw [sigM, hR, hc]; exact hm
theorem sigP_yes {x : Int} {msg : List UInt8} (h : 1 ≤ x ∧ x < 2305843009213688669) {k : Nat} {R c m : Int} (hk : hashN tNonce msg [x] = k) (hR : (baseP k).1 = R) (hc : (hashN tSign msg [R, (baseP x).1] : Int) = c) (hm : (fMulP c x).1 = m) :
    sigP x msg = ((R, (fAddP k m).1), (fAddP k m).2) := by
  have h1 := sigR_eq hk hR
  have h2 := sigM_eq h1 hc hm
  have h3 : keyOk x = true := by rw [keyOk_def]; exact decide_eq_true h
  rw [sigP, if_pos h3, h1, h2, hk]
end Go.W
/-! A mark: texts that import it do not unfold what is reckoned. -/
namespace Go.W
theorem w20 : True := trivial
end Go.W
/-! Codec: plain and pieces. -/
namespace Go.W
open Go Go.RowKit
theorem q_shrI {P : Program} {S : World → Prop} {F : Fr} {ty : TypeId} {x y : Operand} {t t' : TypeId} {yk : IntKind} {a : Int} {s : Nat} (hx : oev F x = some (.int .i64 a)) (hy : oev F y = some (.int yk (s : Int))) (hs : s ≤ 64) : Qt P S F (.binOp .shr t x y t') ty (.int .i64 (a / 2 ^ s)) := by
  intro ρ hρ w _ d pos after g
  have he : (eqGuard .shr t x y (.int .i64 a) (.int yk (s : Int))).run P w = .ok () w := by unfold eqGuard; simp
  have hb : (Go.binOp .shr t (.int .i64 a) (.int yk (s : Int))).run P w = .ok (.int .i64 (a / 2 ^ s)) w := by
    have : (Op.shift .shr .i64 a yk (s : Int)).run P w = .ok (.int .i64 (a / 2 ^ s)) w := by
      simp only [Op.shift]
      rw [if_neg (by omega)]
      simp only [Int.toNat_natCast, Nat.min_eq_left (show s ≤ IntKind.i64.bits from hs), Sem.run_pure]
      congr 2
      exact Int.fdiv_eq_ediv_of_nonneg _ (by exact_mod_cast Nat.zero_le (2 ^ s))
    exact this
  simp only [execOp, hρ x _ hx, hρ y _ hy, Sem.run_bind, he, hb, Result.andThen_ok, Sem.run_pure]
theorem St.nilR {B : Base} {H : Froz} {w : World} {L : List Blk} (h : St B H L w) : St B H (L ++ []) w := by rw [List.append_nil]; exact h
section
variable {P : Program} {ops : Array Oper} {Q : Exit → Act → World → Prop} {n i fuel : Nat} {a : Act} {F : Fr} {w : World} {listed : Array Bool} {S : World → Prop} {Ls : List Nat}
/-- A loud operation under a guard that says yes. -/
theorem r_lig {o : Oper} {gb : Nat × Bool} (hi : ops[i]? = some o) (hg : o.guard = some gb) (hF : Has n a F) (hv : gval ops F gb.1 = some (.bool gb.2))
    (h : ∀ K : Act → World → Prop, (∀ (S' : World → Prop) a' w', S' w' → (∀ w, S' w → S w) → wpAnyL P .any ops Q S' Ls fuel (listed.setIfInBounds i true) a' w' → K a' w') → o.wp P a w K Q) :
    wpOp P ops Q i (fun a' w' => (Ls.contains i = false → S w') ∧ wpAnyL P .any ops Q S Ls fuel (listed.setIfInBounds i true) a' w') a w := by
  unfold wpOp
  simp only [hi]
  rw [if_pos (by rw [wanted_of hg hF hv]; simp)]
  exact .inl (h _ fun S' a' w' h1 hss h3 => ⟨fun _ => hss _ h1, r_hold hss _ _ _ _ h3⟩)
end
def unsN (n : Int) : Nat := (u64N n * 2 % 18446744073709551616) ^^^ u64N (n / 2 ^ 63)
theorem unsN_lt (n : Int) : unsN n < 18446744073709551616 := Nat.xor_lt_two_pow (n := 64) (Nat.mod_lt _ (by decide)) (u64N_lt _)
def numB : Nat → Nat → List UInt8
  | 0, u => [UInt8.ofNat u]
  | f + 1, u => if u < 128 then [UInt8.ofNat u] else UInt8.ofNat ((u % 256) ||| 128) :: numB f (u / 128)
def numL (u : Nat) : List UInt8 := numB 9 u
theorem numB_small {f u : Nat} (h : u < 128) : numB f u = [UInt8.ofNat u] := by
  cases f with
  | zero => rfl
  | succ f => rw [numB, if_pos h]
theorem numB_big {f u : Nat} (h : 128 ≤ u) : numB (f + 1) u = UInt8.ofNat ((u % 256) ||| 128) :: numB f (u / 128) := by rw [numB, if_neg (by omega)]
theorem pow_step {f u : Nat} (h : u < 128 ^ (f + 2)) : u / 128 < 128 ^ (f + 1) := by
  rw [Nat.div_lt_iff_lt_mul (by decide)]; rw [Nat.pow_succ] at h; exact h
/-- The message's encoding. -/
def encI (n : Int) : List UInt8 := 1 :: numL (unsN n)
def encT (s : List UInt8) : List UInt8 := 2 :: (numL s.length ++ s)
def encM (a b c : Int) (s : List UInt8) : List UInt8 := 3 :: (numL 4 ++ (encI a ++ encI b ++ encI c ++ encT s))
/-- Cells of a row, frozen. -/
structure HR (H : Froz) (b : Nat) (cs : List Value) : Prop where
  h : ∀ j v, cs[j]? = some v → hcell H b j = some v
theorem HR.mono {H H' : Froz} {b : Nat} {cs : List Value} (h : HR H b cs) (hle : Le H H') : HR H' b cs := ⟨fun j v hv => hcell_le hle (h.h j v hv)⟩
theorem frz_hr {H : Froz} {b : Nat} {cs : List Value} {T : TypeId} : HR (frz H ⟨b, cs, T⟩) b cs := ⟨fun j v hv => by
  have := frz_self H ⟨b, cs, T⟩
  simp only [] at this
  simp only [hcell, this]
  simpa using hv⟩
end Go.W
/-! Plain: the values of a message. -/
namespace Go.W
open Go Go.RowKit
inductive Lf where
  | i (n : Int)
  | t (s : ByteArray)
def Lf.c : Lf → List Value
  | .i n => [.int .i64 1, .int .i64 n, .string ⟨#[]⟩, .slice none 0 0]
  | .t s => [.int .i64 2, .int .i64 0, .string s, .slice none 0 0]
def Lf.k : Lf → Nat
  | .i _ => 1
  | .t _ => 2
def Lf.e : Lf → List UInt8
  | .i n => encI n
  | .t s => encT s.data.toList
def Lf.z : Lf → Nat
  | .i _ => 0
  | .t s => s.size
theorem Lf.c_len (l : Lf) : l.c.length = 4 := by cases l <;> rfl
theorem Lf.c_all1 (l : Lf) : all1 l.c = true := by cases l <;> rfl
theorem Lf.k_le (l : Lf) : 1 ≤ l.k ∧ l.k ≤ 2 := by cases l <;> simp [Lf.k]
theorem numB_len : ∀ f u, (numB f u).length ≤ f + 1
  | 0, _ => by simp [numB]
  | f + 1, u => by
    rw [numB]
    split
    · simp
    · have := numB_len f (u / 128)
      simp only [List.length_cons]
      omega
theorem numL_len (u : Nat) : (numL u).length ≤ 10 := numB_len 9 u
theorem Lf.e_len (l : Lf) : l.e.length ≤ 11 + l.z := by
  cases l with
  | i n => have := numL_len (unsN n); simp only [Lf.e, encI, List.length_cons, Lf.z]; omega
  | t s =>
    have := numL_len s.data.toList.length
    have h2 : s.size = s.data.toList.length := by simp
    simp only [Lf.e, encT, List.length_cons, List.length_append, Lf.z]
    omega
def encLs (ls : List Lf) (j : Nat) : List UInt8 := 3 :: (numL ls.length ++ (ls.take j).flatMap Lf.e)
theorem encLs_succ {ls : List Lf} {j : Nat} (h : j < ls.length) : encLs ls (j + 1) = encLs ls j ++ ls[j].e := by
  unfold encLs
  rw [List.take_succ_eq_append_getElem h, List.flatMap_append]
  simp
def encL (ls : List Lf) : List UInt8 := encLs ls ls.length
def lfE (ls : List Lf) : List (List Value) := ls.map Lf.c
end Go.W
/-! Plain: entries, heads, stores. -/
namespace Go.W
open Go Go.RowKit
structure Hd where
  st : Int
  fo : Int
  no : Int
  ch : Dg
  R : Int
  S : Int
def Hd.c (h : Hd) : List Value := .int .i64 h.st :: .int .i64 h.fo :: .int .i64 h.no :: (dc h.ch ++ [.int .i64 h.R, .int .i64 h.S])
theorem Hd.c_len (h : Hd) : h.c.length = 37 := by simp [Hd.c, dc_length]
theorem Hd.c_all1 (h : Hd) : all1 h.c = true := by
  have := dc_all1 h.ch
  simp only [all1, List.all_eq_true] at this
  simp only [Hd.c, all1, List.all_cons, List.all_append, Bool.and_eq_true, List.all_eq_true]
  exact ⟨rfl, rfl, rfl, this, by simp; exact ⟨rfl, rfl⟩⟩
theorem Hd.ld_ch (h : Hd) : ldv true 32 h.c 3 = some (.agg (dc h.ch).toArray) := by
  simp only [ldv, cond_true, Hd.c, List.drop_succ_cons, List.drop_zero]
  rw [List.take_append_of_le_length (by rw [dc_length]; exact Nat.le_refl _), List.take_of_length_le (by rw [dc_length]; exact Nat.le_refl _)]
theorem Hd.ld_sig (h : Hd) : ldv true 2 h.c 35 = some (.agg #[.int .i64 h.R, .int .i64 h.S]) := by
  simp only [ldv, cond_true, Hd.c]
  rw [show (35 : Nat) = 32 + 1 + 1 + 1 from rfl, List.drop_succ_cons, List.drop_succ_cons, List.drop_succ_cons, List.drop_append, List.drop_eq_nil_of_le (by rw [dc_length]; exact Nat.le_refl _), dc_length]
  rfl
/-- An entry: the data is a slice. -/
structure En where
  kind : Int
  dg : Dg
  da : Option Addr
  dn : Nat
  dp : Nat
  bs : List UInt8
  gone : Bool
def En.c (e : En) : List Value := .int .i64 e.kind :: (dc e.dg ++ [.slice e.da e.dn e.dp, .bool e.gone])
theorem En.c_len (e : En) : e.c.length = 35 := by simp [En.c, dc_length]
theorem En.c_all1 (e : En) : all1 e.c = true := by
  have := dc_all1 e.dg
  simp only [all1, List.all_eq_true] at this
  simp only [En.c, all1, List.all_cons, List.all_append, Bool.and_eq_true, List.all_eq_true]
  exact ⟨rfl, this, by simp; exact ⟨rfl, rfl⟩⟩
theorem En.ld_dg (e : En) : ldv true 32 e.c 1 = some (.agg (dc e.dg).toArray) := by
  simp only [ldv, cond_true, En.c, List.drop_succ_cons, List.drop_zero]
  rw [List.take_append_of_le_length (by rw [dc_length]; exact Nat.le_refl _), List.take_of_length_le (by rw [dc_length]; exact Nat.le_refl _)]
theorem En.ld_da (e : En) : ldv false 1 e.c 33 = some (.slice e.da e.dn e.dp) := by
  simp only [ldv, cond_false, En.c]
  rw [List.getElem?_cons_succ, List.getElem?_append_right (by rw [dc_length]; exact Nat.le_refl _), dc_length]
  rfl
theorem En.ld_go (e : En) : ldv false 1 e.c 34 = some (.bool e.gone) := by
  simp only [ldv, cond_false, En.c]
  rw [List.getElem?_cons_succ, List.getElem?_append_right (by rw [dc_length]; decide), dc_length]
  rfl
theorem En.ld_all (e : En) : ldv true 35 e.c 0 = some (.agg e.c.toArray) := by
  simp only [ldv, cond_true, List.drop_zero]
  rw [List.take_of_length_le (by rw [En.c_len]; exact Nat.le_refl _)]
def u8N (n : Int) : Nat := (n % 256).toNat
theorem u8N_lt (n : Int) : u8N n < 256 := by unfold u8N; omega
theorem wrap_u8N (n : Int) : IntKind.u8.wrap n = (u8N n : Int) := by
  unfold IntKind.wrap u8N
  simp only [show IntKind.u8.signed = false from rfl, Bool.false_and]
  have : (2 : Int) ^ IntKind.u8.bits = 256 := by decide
  rw [this]
  simp
  omega
theorem bc_u8 (n : Int) : [Value.int .u8 (u8N n : Int)] = bc [UInt8.ofNat (u8N n)] := by
  have := u8N_lt n
  simp [bc]
  omega
theorem RdL.u8 {H : Froz} {a : Option Addr} {n : Int} (h : RdL H a 1 [[Value.int .u8 (u8N n : Int)]]) : RdS H a 1 1 (bc [UInt8.ofNat (u8N n)]) := by rw [← bc_u8]; exact h.rd
abbrev tEntry : List UInt8 := [101, 110, 116, 114, 121]
abbrev tLog : List UInt8 := [108, 111, 103]
abbrev tHead : List UInt8 := [104, 101, 97, 100]
abbrev tChain : List UInt8 := [99, 104, 97, 105, 110]
noncomputable def digE (kind : Int) (bs : List UInt8) : Dg := tagged tEntry (UInt8.ofNat (u8N kind) :: bs)
noncomputable def chainK (folder : Int) (ds : List Dg) (k : Nat) : Dg := (ds.take k).foldl (fun e d => tagged tChain (e.l ++ d.l)) (tagged tLog [UInt8.ofNat (u8N folder)])
theorem chainK_succ {folder : Int} {ds : List Dg} {k : Nat} (h : k < ds.length) : chainK folder ds (k + 1) = tagged tChain ((chainK folder ds k).l ++ ds[k].l) := by
  unfold chainK
  rw [List.take_succ_eq_append_getElem h, List.foldl_append]
  rfl
noncomputable def chainN (folder : Int) (ds : List Dg) : Dg := chainK folder ds ds.length
def dgE (ds : List Dg) : List (List Value) := ds.map dc
noncomputable def msgN (h : Hd) : Dg := tagged tHead (encL [.i h.st, .i h.fo, .i h.no, .t (bstr h.ch.l)])
noncomputable def verS (pub : Int) (h : Hd) : Bool := decide (0 ≤ h.st ∧ h.st < 4) && decide (0 ≤ h.fo ∧ h.fo < 16) && decide (0 ≤ h.no ∧ h.no ≤ 65536) && verP pub (msgN h).l h.R h.S
/-- New: number, key, error. -/
noncomputable def newP (id priv : Int) : Int × Int × Int := (kept (if id < 0 ∨ 4 ≤ id then (0, 0, 300) else if keyOk priv then (id, priv, 0) else (0, 0, 50))).1
theorem newP_def (id priv : Int) : newP id priv = (if id < 0 ∨ 4 ≤ id then (0, 0, 300) else if keyOk priv then (id, priv, 0) else (0, 0, 50)) := (kept _).2
theorem pubP2 (x : Int) : (pubP x).2 = if keyOk x then 0 else 50 := by unfold pubP; split <;> rfl
theorem newP_a {id priv : Int} (h : id < 0 ∨ 4 ≤ id) : newP id priv = (0, 0, 300) := by rw [newP_def, if_pos h]
theorem newP_b {id priv : Int} (h : ¬ (id < 0 ∨ 4 ≤ id)) (hk : ¬ (pubP priv).2 = 0) : newP id priv = (0, 0, 50) ∧ (pubP priv).2 = 50 := by
  rw [newP_def, if_neg h, pubP2] at *
  cases h2 : keyOk priv <;> simp_all
theorem newP_c {id priv : Int} (h : ¬ (id < 0 ∨ 4 ≤ id)) (hk : (pubP priv).2 = 0) : newP id priv = (id, priv, 0) := by
  rw [newP_def, if_neg h]
  rw [pubP2] at hk
  cases h2 : keyOk priv <;> simp_all
theorem verS_no {pub : Int} {h : Hd} (hn : ¬ ((0 ≤ h.st ∧ h.st < 4) ∧ (0 ≤ h.fo ∧ h.fo < 16) ∧ (0 ≤ h.no ∧ h.no ≤ 65536))) : verS pub h = false := by
  unfold verS
  simp only [Bool.and_eq_false_iff, decide_eq_false_iff_not]
  omega
theorem verS_yes {pub : Int} {h : Hd} (h1 : 0 ≤ h.st ∧ h.st < 4) (h2 : 0 ≤ h.fo ∧ h.fo < 16) (h3 : 0 ≤ h.no ∧ h.no ≤ 65536) : verS pub h = verP pub (msgN h).l h.R h.S := by
  unfold verS
  rw [decide_eq_true h1, decide_eq_true h2, decide_eq_true h3]
  simp
theorem Hd.ld_all (h : Hd) : ldv true 37 h.c 0 = some (.agg h.c.toArray) := by
  simp only [ldv, cond_true, List.drop_zero]
  rw [List.take_of_length_le (by rw [Hd.c_len]; exact Nat.le_refl _)]
theorem Hd.rd_ch {H : Froz} {b : Nat} {h : Hd} (hr : HR H b h.c) : RdS H (some ⟨b, 3, none⟩) 32 1 (bc h.ch.l) := by
  refine ⟨by rw [bc_length, h.ch.h], fun _ => ⟨b, 3, rfl, fun j v hv => hr.h _ _ ?_⟩⟩
  have hj := (List.getElem?_eq_some_iff.1 hv).1
  rw [Nat.add_comm]
  simp only [Hd.c, List.getElem?_cons_succ]
  rw [List.getElem?_append_left (by rw [dc]; exact hj)]
  exact hv
theorem q_convBSn {P : Program} {B : Base} {H : Froz} {L : List Blk} {F : Fr} {ty T : TypeId} {x : Operand} {S0 : TypeId} {E : TypeId} {a : Option Addr} {n c : Nat} {l : List UInt8} (hs : P.underlying S0 = some (.slice E)) (he : P.underlying E = some (.int .u8)) (hd : P.underlying T = some .string) (hx : oev F x = some (.slice a n c)) (hr : RdS H a n 1 (bc l)) :
    Qt P (St B H L) F (.convert S0 T x) ty (.string (bstr l)) := by
  have hn := hr.bytes
  subst hn
  exact q_convBS hs he hd hx hr
theorem encL_len4 (h : Hd) : (encL [.i h.st, .i h.fo, .i h.no, .t (bstr h.ch.l)]).length ≤ 1000 := by
  have e1 := Lf.e_len (.i h.st)
  have e2 := Lf.e_len (.i h.fo)
  have e3 := Lf.e_len (.i h.no)
  have e4 := Lf.e_len (.t (bstr h.ch.l))
  have e5 := numL_len 4
  have e6 : (bstr h.ch.l).size = 32 := by rw [← h.ch.h]; simp [bstr]; rfl
  simp only [Lf.z, e6] at e1 e2 e3 e4
  have e7 : encL [.i h.st, .i h.fo, .i h.no, .t (bstr h.ch.l)] = 3 :: (numL 4 ++ ((Lf.i h.st).e ++ ((Lf.i h.fo).e ++ ((Lf.i h.no).e ++ (Lf.t (bstr h.ch.l)).e)))) := by
    simp [encL, encLs]
  rw [e7]
  simp only [List.length_cons, List.length_append]
  omega
end Go.W
/-! Maps whose keys are digests. -/
namespace Go.W
open Go Go.RowKit
def kd (d : Dg) : Value := .agg (dc d).toArray
/-- The map at b holds the digests ds, each as true. -/
structure MP (H : Froz) (b : Nat) (ds : List Dg) : Prop where
  h : ∃ es clock, H b = some (.map es clock) ∧ es.toList.map (·.key) = ds.map kd ∧ ∀ e ∈ es.toList, e.val = .bool true
section
variable {P : Program} {T E : TypeId} {k' : IntKind} {w : World}
theorem run_equal_dg (h : P.underlying T = some (.array 32 E)) (he : P.underlying E = some (.int k')) (ht : tyS P E = some (false, 1)) (a b : Dg) : (Op.equal T (kd a) (kd b)).run P w = .ok (decide (a = b)) w := by
  have e : decide (a = b) = decide (a.l.map (fun b => (b.toNat : Int)) = b.l.map (fun b => (b.toNat : Int))) := by
    refine decide_eq_decide.2 ⟨fun h => by rw [h], fun h => Dg.ext' ?_⟩
    have := congrArg (List.map (Value.int .u8)) h
    rw [← bc_ints, ← bc_ints] at this
    exact bc_inj this
  rw [e]
  have := run_eqArrI (P := P) (k := .u8) (dd := 9998) h he ht w (xs := a.l.map (fun b => (b.toNat : Int))) (ys := b.l.map (fun b => (b.toNat : Int))) (by rw [List.length_map, a.h]) (by rw [List.length_map, b.h])
  rw [← bc_ints, ← bc_ints] at this
  exact this
theorem run_checkKey_dg (h : P.underlying T = some (.array 32 E)) (he : P.underlying E = some (.int k')) (ht : tyS P E = some (false, 1)) (em : Bool) (d : Dg) : (Instr.checkKey em 10000 T (kd d)).run P w = .ok () w := by
  have one : ∀ (i : Nat), i < 32 → (part E (dc d).toArray (i * 1)).run P w = .ok (.int .u8 (gt (bn d.l) i : Int)) w := fun i hi => run_part' ht (by
    rw [Nat.mul_one]; simp only [ldv, cond_false]; exact bc_getn (by rw [d.h]; exact hi))
  have ck : ∀ v, (Instr.checkKey em 9999 E (.int .u8 v)).run P w = .ok () w := fun v => by
    show (Instr.checkKey em (9998 + 1) E (.int .u8 v)).run P w = .ok () w
    unfold Instr.checkKey
    rw [Sem.run_bind, run_underlying he]
    rfl
  show (Instr.checkKey em (9999 + 1) T (.agg (dc d).toArray)).run P w = .ok () w
  unfold Instr.checkKey
  rw [Sem.run_bind, run_underlying h, Result.andThen_ok]
  simp only [Std.Legacy.Range.forIn_eq_forIn_range', Std.Legacy.Range.size, Nat.sub_zero, Nat.add_one_sub_one, Nat.div_one]
  have key : ∀ (l : List Nat), (∀ i ∈ l, i < 32) → (forIn (m := Sem) l PUnit.unit fun i _ => do
      let s ← sizeOf E
      let v ← part E (dc d).toArray (i * s)
      Instr.checkKey em 9999 E v
      pure (ForInStep.yield PUnit.unit)).run P w = .ok PUnit.unit w := by
    intro l
    induction l with
    | nil => intro _; simp
    | cons i t ih =>
      intro hl
      have h1 := one i (hl i (by simp))
      rw [Nat.mul_one] at h1
      simp only [List.forIn_cons, Sem.run_bind, run_sizeOf' ht, Result.andThen_ok, Nat.mul_one, h1, ck, Sem.run_pure]
      exact ih (fun j hj => hl j (by simp [hj]))
  have := key (List.range' 0 32) (fun i hi => by simp at hi; omega)
  simpa using this
theorem run_findAsking_no (h : P.underlying T = some (.array 32 E)) (he : P.underlying E = some (.int k')) (ht : tyS P E = some (false, 1)) (d : Dg) : ∀ (es : List MapEntry) (ds : List Dg) (i : Nat), es.map (·.key) = ds.map kd → d ∉ ds → (Instr.findAsking T (kd d) es i).run P w = .ok none w
  | [], ds, i, _, _ => by simp [Instr.findAsking]
  | e :: es, [], i, hk, _ => by simp at hk
  | e :: es, d' :: ds, i, hk, hn => by
    simp only [List.map_cons, List.cons.injEq] at hk
    have h1 := run_equal_dg (P := P) (w := w) h he ht d d'
    rw [decide_eq_false (by rintro rfl; exact hn (by simp))] at h1
    rw [Instr.findAsking]
    simp only [Sem.run_bind, hk.1, h1, Result.andThen_ok, Bool.false_eq_true, if_false]
    exact run_findAsking_no h he ht d es ds (i + 1) hk.2 (fun hm => hn (by simp [hm]))
theorem run_findAsking_yes (h : P.underlying T = some (.array 32 E)) (he : P.underlying E = some (.int k')) (ht : tyS P E = some (false, 1)) (d : Dg) : ∀ (es : List MapEntry) (ds : List Dg) (i : Nat), es.map (·.key) = ds.map kd → (∀ e ∈ es, e.val = .bool true) → d ∈ ds → ∃ j, (Instr.findAsking T (kd d) es i).run P w = .ok (some (j, .bool true)) w
  | [], ds, i, hk, _, hm => by
    cases ds with
    | nil => cases hm
    | cons a t => simp at hk
  | e :: es, [], i, hk, _, _ => by simp at hk
  | e :: es, d' :: ds, i, hk, hv, hm => by
    simp only [List.map_cons, List.cons.injEq] at hk
    have h1 := run_equal_dg (P := P) (w := w) h he ht d d'
    rw [Instr.findAsking]
    by_cases hd : d = d'
    · rw [decide_eq_true hd] at h1
      exact ⟨i, by simp only [Sem.run_bind, hk.1, h1, Result.andThen_ok, if_true, Sem.run_pure, hv e (by simp)]⟩
    · rw [decide_eq_false hd] at h1
      obtain ⟨j, hj⟩ := run_findAsking_yes h he ht d es ds (i + 1) hk.2 (fun x hx => hv x (by simp [hx])) (by
        rcases List.mem_cons.1 hm with rfl | hm
        · exact absurd rfl hd
        · exact hm)
      exact ⟨j, by simp only [Sem.run_bind, hk.1, h1, Result.andThen_ok, Bool.false_eq_true, if_false]; exact hj⟩
theorem run_findKey_dg (h : P.underlying T = some (.array 32 E)) (d : Dg) (es : List MapEntry) : (Instr.findKey T (kd d) es).run P w = (Instr.findAsking T (kd d) es 0).run P w := by
  unfold Instr.findKey
  simp only [Sem.run_bind, run_underlying h, Result.andThen_ok]
  cases es with
  | nil => simp [Instr.findNow, Instr.findAsking]
  | cons e t => simp [Instr.findNow, Instr.sameNow]
end
section
variable {P : Program} {ops : Array Oper} {Q : Exit → Act → World → Prop} {n d : Nat} {a : Act} {F : Fr} {w : World} {B : Base} {H : Froz} {L : List Blk}
  {ty T KT E VT : TypeId} {pos : String} {after : Array Edge} {v u : Value} {x y z : Operand} {K : Act → World → Prop} {g : Option (Nat × Bool)} {k' : IntKind}
theorem q_lookupDg {b : Nat} {ds : List Dg} {dg : Dg} (hm : P.underlying T = some (.map KT VT)) (h : P.underlying KT = some (.array 32 E)) (he : P.underlying E = some (.int k')) (ht : tyS P E = some (false, 1)) (hz : (P.info? VT).bind (·.zero) = some (.bool false))
    (hx : oev F x = some (.map (some b))) (hy : oev F y = some (.agg (dc dg).toArray)) (hp : MP H b ds) : Qt P (St B H L) F (.lookup T x y false) ty (.bool (decide (dg ∈ ds))) := by
  intro ρ hρ w hS d pos after g
  obtain ⟨es, clock, hb, hk, hv⟩ := hp.h
  have hb' := hS.froz _ _ hb
  have hzv : (zeroValue VT).run P w = .ok (.bool false) w := by
    obtain ⟨i, z1, z2⟩ := Option.bind_eq_some_iff.1 hz
    simp [zeroValue, typeInfo, z1, z2]
  have hck := fun em => run_checkKey_dg (P := P) (w := w) h he ht em dg
  have hfk := run_findKey_dg (P := P) (w := w) h dg es.toList
  by_cases hmem : dg ∈ ds
  · obtain ⟨j, hj⟩ := run_findAsking_yes (P := P) (w := w) h he ht dg es.toList ds 0 hk hv hmem
    simp only [execOp, hρ x _ hx, hρ y _ hy, Instr.lookup, Sem.run_bind, run_underlying hm, Result.andThen_ok, MapKept.run_getObj_map hb', Sem.run_pure]
    simp only [kd] at hck hfk hj
    simp [hck, hfk, hj, hmem]
  · have hj := run_findAsking_no (P := P) (w := w) h he ht dg es.toList ds 0 hk hmem
    simp only [execOp, hρ x _ hx, hρ y _ hy, Instr.lookup, Sem.run_bind, run_underlying hm, Result.andThen_ok, MapKept.run_getObj_map hb', Sem.run_pure]
    simp only [kd] at hck hfk hj
    simp [hck, hfk, hj, hmem, hzv]
theorem l_makeMap (hF : Has n a F) (hS : St B H L w) (hd : Nat.blt d n = true)
    (kk : ∀ a' w' H' b, Le H H' → B.H0 b = none → MP H' b [] → Has n a' ((d, .map (some b)) :: F) → St B H' L w' → K a' w') : (⟨some d, .makeMap T none, ty, pos, after, g⟩ : Oper).wp P a w K Q := by
  unfold Oper.wp
  have : (execOp a.eval (⟨some d, .makeMap T none, ty, pos, after, g⟩ : Oper)).run P w = .ok (.value (.map (some w.heap.size))) (w.alloc (.map #[] 0)) := by
    simp [execOp, Instr.makeMap]
  rw [this]
  obtain ⟨h1, h2⟩ := hS.addF (.map #[] 0)
  have hno : B.H0 w.heap.size = none := by
    cases hh : B.H0 w.heap.size with
    | none => rfl
    | some o => exact absurd (hS.hlt (hS.sub _ _ hh)) (Nat.lt_irrefl _)
  exact kk _ _ _ _ h1 hno ⟨⟨#[], 0, by simp, by simp, by simp⟩⟩ (hF.put hd _) h2
/-- What is frozen besides what the call was handed may be turned by the call itself. -/
theorem St.turn (h : St B H L w) {b : Nat} {o o' : Obj} (hb : H b = some o) (hn : B.H0 b = none) (hm : b ∉ B.M0) {w' : World} (ho : Only b o' w w') : St B (fun k => if k = b then some o' else H k) L w' where
  os := ho.os.trans h.os
  tape := ho.tape.trans h.tape
  output := ho.output.trans h.output
  size := by rw [ho.size]; exact h.size
  old k hk hkm := by
    refine (ho.other k ?_).trans (h.old k hk hkm)
    rintro rfl
    rcases h.fresh _ _ hb with h1 | h1 | h1
    · rw [hn] at h1; cases h1
    · omega
    · exact hkm h1
  froz k q hk := by
    by_cases e : k = b
    · simp only [e, if_true] at hk; rw [e, ← Option.some.inj hk]; exact ho.at_
    · simp only [e, if_false] at hk; exact (ho.other k e).trans (h.froz k q hk)
  sub k q hk := by
    by_cases e : k = b
    · rw [e, hn] at hk; cases hk
    · simpa [e] using h.sub k q hk
  fresh k q hk := by
    by_cases e : k = b
    · rcases h.fresh _ _ hb with h1 | h1 | h1
      · rw [hn] at h1; cases h1
      · rw [e]; exact .inr (.inl h1)
      · exact absurd h1 hm
    · simp only [e, if_false] at hk; exact h.fresh k q hk
  own x hx := by
    have hne : x.b ≠ b := fun e => by
      have := (h.mine x hx).2
      rw [e, hb] at this; cases this
    exact (ho.other x.b hne).trans (h.own x hx)
  mine x hx := by
    refine ⟨(h.mine x hx).1, ?_⟩
    have hne : x.b ≠ b := fun e => by
      have := (h.mine x hx).2
      rw [e, hb] at this; cases this
    simp only [hne, if_false]
    exact (h.mine x hx).2
  nodup := h.nodup
theorem l_mapUpdateDg {b : Nat} {ds : List Dg} {dg : Dg} {Hb : Froz} (hm : P.underlying T = some (.map KT VT)) (h : P.underlying KT = some (.array 32 E)) (he : P.underlying E = some (.int k')) (ht : tyS P E = some (false, 1)) (hF : Has n a F) (hS : St B H L w)
    (hx : oev F x = some (.map (some b))) (hy : oev F y = some (.agg (dc dg).toArray)) (hz : oev F z = some (.bool true)) (hp : MP H b ds) (hn : B.H0 b = none) (hM : b ∉ B.M0) (hno : dg ∉ ds) (hle : Le Hb H) (hnb : Hb b = none)
    (kk : ∀ a' w' H', Le Hb H' → MP H' b (ds ++ [dg]) → Has n a' F → St B H' L w' → K a' w') : (⟨none, .mapUpdate T x y z, ty, pos, after, g⟩ : Oper).wp P a w K Q := by
  obtain ⟨es, clock, hb, hk, hv⟩ := hp.h
  have hb' := hS.froz _ _ hb
  have hck := run_checkKey_dg (P := P) (w := w) h he ht false dg
  have hfk := run_findKey_dg (P := P) (w := w) h dg es.toList
  have hj := run_findAsking_no (P := P) (w := w) h he ht dg es.toList ds 0 hk hno
  obtain ⟨o', ho'⟩ : ∃ o' : Obj, o' = .map (es.push { key := kd dg, val := .bool true, born := clock }) (clock + 1) := ⟨_, rfl⟩
  obtain ⟨w', hw', honly⟩ : ∃ w', (execOp a.eval (⟨none, .mapUpdate T x y z, ty, pos, after, g⟩ : Oper)).run P w = .ok .skip w' ∧ Only b o' w w' := by
    refine ⟨{ w with heap := w.heap.setIfInBounds b o' }, ?_, rfl, rfl, rfl, by simp, ?_, fun k hk => by simp [Array.getElem?_setIfInBounds_ne (Ne.symm hk)]⟩
    · subst ho'
      simp only [kd] at hck hfk hj
      simp only [execOp, hF.eval hx, hF.eval hy, hF.eval hz, Instr.mapUpdate, Sem.run_bind, run_underlying hm, Result.andThen_ok, MapKept.run_getObj_map hb', hck, hfk, hj, MapKept.run_setObj_map _ hb', kd]
      rfl
    · have := lt_of_some hb'
      simp [this]
  unfold Oper.wp
  rw [hw']
  have hS2 := hS.turn hb hn hM honly
  refine kk _ _ _ (fun k q hq => ?_) ⟨⟨es.push { key := kd dg, val := .bool true, born := clock }, clock + 1, by simp [ho'], by simp [hk, kd], ?_⟩⟩ hF hS2
  · by_cases e : k = b
    · rw [e, hnb] at hq; cases hq
    · simpa [e] using hle k q hq
  · intro e he'
    rw [Array.toList_push, List.mem_append] at he'
    rcases he' with h1 | h1
    · exact hv e h1
    · rw [List.mem_singleton.1 h1]
end
section
variable {P : Program} {Q : Exit → Act → World → Prop} {n d : Nat} {a : Act} {F : Fr} {w : World} {B : Base} {H : Froz} {L : List Blk}
/-- A loop that keeps what is frozen in Hb; the rest may turn. -/
theorem c_loopB {γ : Type} {c : Code} (Hb : Froz) (hF : Has n a F) (W : List Nat) (X : γ → Fr) (Lf : γ → List Blk) (J : γ → Froz → Prop) (μ : γ → Nat) (g : γ)
    (h0 : AllIn F (X g)) (hL : St B H (Lf g) w) (hJ : J g H) (hle : Le Hb H)
    (hr : ∀ g a w H', Le Hb H' → Has n a (X g ++ rem W F) → St B H' (Lf g) w → J g H' →
      c.wp P (Exit.then (fun a' w' => ∃ g' H'', μ g' < μ g ∧ Le Hb H'' ∧ Has n a' (X g' ++ rem W F) ∧ St B H'' (Lf g') w' ∧ J g' H'') Q) a w) : (Code.loop c).wp P Q a w := by
  refine c_loop (fun a w m => ∃ g H', m = μ g ∧ Le Hb H' ∧ Has n a (X g ++ rem W F) ∧ St B H' (Lf g) w ∧ J g H') (μ g) ⟨g, H, rfl, hle, hF.head h0, hL, hJ⟩ ?_
  rintro a w m ⟨g, H', rfl, hle, hF', hS', hJ'⟩
  refine Code.wp_mono ?_ (hr g a w H' hle hF' hS' hJ')
  intro e a' w' hq
  cases e with
  | normal =>
    obtain ⟨g', H'', h1, h2, h3, h4, h5⟩ := hq
    exact ⟨μ g', h1, g', H'', rfl, h2, h3, h4, h5⟩
  | _ => exact hq
end
end Go.W
/-! Plain: logs. -/
namespace Go.W
open Go Go.RowKit
def enE (es : List En) : List (List Value) := es.map En.c
/-- The data of entries can be read, and are not long. -/
def EnsOK (H : Froz) (es : List En) : Prop := ∀ e ∈ es, RdS H e.da e.dn 1 (bc e.bs) ∧ e.dn ≤ e.dp ∧ e.dn ≤ 1000000
theorem EnsOK.mono {H H' : Froz} {es : List En} (h : EnsOK H es) (hle : Le H H') : EnsOK H' es := fun e he => ⟨(h e he).1.mono hle, (h e he).2⟩
noncomputable def okE (e : En) : Bool := if e.gone then decide (e.kind = 4 ∧ e.dn = 0) else (decide (1 ≤ e.kind ∧ e.kind ≤ 7) && decide (e.dg = digE e.kind e.bs))
theorem okE_gone {e : En} (h : e.gone = true) (h1 : e.kind = 4) (h2 : e.dn = 0) : okE e = true := by rw [okE, if_pos h]; exact decide_eq_true ⟨h1, h2⟩
theorem okE_live {e : En} (h : e.gone = false) (h1 : 1 ≤ e.kind ∧ e.kind ≤ 7) (h2 : e.dg = digE e.kind e.bs) : okE e = true := by rw [okE, if_neg (by simp [h]), decide_eq_true h1, decide_eq_true h2]; rfl
theorem okE_gone_no {e : En} (h : e.gone = true) (h1 : ¬ (e.kind = 4 ∧ e.dn = 0)) : okE e = false := by rw [okE, if_pos h]; exact decide_eq_false h1
theorem okE_live_no {e : En} (h : e.gone = false) (h1 : ¬ (1 ≤ e.kind ∧ e.kind ≤ 7)) : okE e = false := by rw [okE, if_neg (by simp [h]), decide_eq_false h1]; rfl
theorem okE_live_no2 {e : En} (h : e.gone = false) (h1 : ¬ e.dg = digE e.kind e.bs) : okE e = false := by rw [okE, if_neg (by simp [h]), decide_eq_false h1, Bool.and_false]
noncomputable def fineN (es : List En) : Bool := es.all okE && decide ((es.map En.dg).Nodup) && decide (0 < es.length ∧ es.length ≤ 65536)
theorem fineN_bad {es : List En} {k : Nat} (h : k < es.length) (hb : okE es[k] = false) : fineN es = false := by
  have : es.all okE = false := by
    rw [List.all_eq_false]
    exact ⟨es[k], List.getElem_mem h, by simp [hb]⟩
  simp [fineN, this]
theorem take_dg {es : List En} {k : Nat} (h : k < es.length) : (es.take (k + 1)).map En.dg = (es.take k).map En.dg ++ [es[k].dg] := by
  rw [List.take_succ_eq_append_getElem h, List.map_append]; rfl
theorem fineN_dup {es : List En} {k : Nat} (h : k < es.length) (hm : es[k].dg ∈ (es.take k).map En.dg) : fineN es = false := by
  have : ¬ (es.map En.dg).Nodup := by
    intro hn
    have h1 : ((es.take (k + 1)).map En.dg).Nodup := by
      rw [List.map_take]
      exact hn.sublist (List.take_sublist _ _)
    rw [take_dg h, List.nodup_append] at h1
    exact h1.2.2 _ hm _ (by simp) rfl
  simp [fineN, this]
theorem fineN_all {es : List En} (h1 : ∀ e ∈ es, okE e = true) (h2 : (es.map En.dg).Nodup) : fineN es = decide (0 < es.length ∧ es.length ≤ 65536) := by
  have : es.all okE = true := List.all_eq_true.2 h1
  simp [fineN, this, h2]
theorem nodup_step {es : List En} {k : Nat} (h : k < es.length) (hn : ((es.take k).map En.dg).Nodup) (hm : es[k].dg ∉ (es.take k).map En.dg) : ((es.take (k + 1)).map En.dg).Nodup := by
  rw [take_dg h, List.nodup_append]
  refine ⟨hn, by simp, fun a ha b hb => ?_⟩
  rw [List.mem_singleton.1 hb]
  rintro rfl
  exact hm ha
theorem ok_step {es : List En} {k : Nat} (h : k < es.length) (ho : ∀ e ∈ es.take k, okE e = true) (he : okE es[k] = true) : ∀ e ∈ es.take (k + 1), okE e = true := by
  rw [List.take_succ_eq_append_getElem h]
  intro e hm
  rcases List.mem_append.1 hm with hm | hm
  · exact ho e hm
  · rw [List.mem_singleton.1 hm]; exact he
end Go.W
/-! Plain: logs of a store. -/
namespace Go.W
open Go Go.RowKit
structure Lg where
  fo : Int
  ea : Option Addr
  ec : Nat
  es : List En
def Lg.c (l : Lg) : List Value := [.int .i64 l.fo, .slice l.ea l.es.length l.ec]
def lgE (ls : List Lg) : List (List Value) := ls.map Lg.c
structure Sto where
  id : Int
  priv : Int
  la : Option Addr
  lc : Nat
  logs : List Lg
def Sto.c (s : Sto) : List Value := [.int .i64 s.id, .int .i64 s.priv, .slice s.la s.logs.length s.lc]
/-- A log's memory. -/
structure LgOK (H : Froz) (l : Lg) : Prop where
  rd : RdL H l.ea 35 (enE l.es)
  en : EnsOK H l.es
  len : l.es.length ≤ 1000000
  cap : l.es.length ≤ l.ec
structure StOK (H : Froz) (s : Sto) : Prop where
  rd : RdL H s.la 2 (lgE s.logs)
  lg : ∀ l ∈ s.logs, LgOK H l
  len : s.logs.length ≤ 1000000
  cap : s.logs.length ≤ s.lc
theorem LgOK.mono {H H' : Froz} {l : Lg} (h : LgOK H l) (hle : Le H H') : LgOK H' l := ⟨h.rd.mono hle, h.en.mono hle, h.len, h.cap⟩
theorem StOK.mono {H H' : Froz} {s : Sto} (h : StOK H s) (hle : Le H H') : StOK H' s := ⟨h.rd.mono hle, fun l hl => (h.lg l hl).mono hle, h.len, h.cap⟩
def cmpI (a b : Int) : Int := if a < b then -1 else if b < a then 1 else 0
/-- The log number j is as it should be. -/
noncomputable def lgB (ls : List Lg) (j : Nat) : Bool := match ls[j]? with
  | some l => decide (0 ≤ l.fo ∧ l.fo < 16) && (decide (j = 0) || decide ((ls[j - 1]?.map Lg.fo).getD 0 < l.fo)) && fineN l.es
  | none => true
noncomputable def logsN (ls : List Lg) : Bool := (List.range ls.length).all (lgB ls)
noncomputable def checkN (s : Sto) : Int := (kept (if (newP s.id s.priv).2.2 = 0 ∧ logsN s.logs = true then 0 else 300)).1
theorem checkN_def (s : Sto) : checkN s = (if (newP s.id s.priv).2.2 = 0 ∧ logsN s.logs = true then 0 else 300) := (kept _).2
theorem logsN_no {ls : List Lg} {j : Nat} (h : j < ls.length) (hb : lgB ls j = false) : logsN ls = false := by
  unfold logsN
  rw [List.all_eq_false]
  exact ⟨j, List.mem_range.2 h, by simp [hb]⟩
theorem logsN_yes {ls : List Lg} (h : ∀ j, j < ls.length → lgB ls j = true) : logsN ls = true := by
  unfold logsN
  rw [List.all_eq_true]
  exact fun j hj => h j (List.mem_range.1 hj)
theorem lgB_eq {ls : List Lg} {j : Nat} {l : Lg} (h : ls[j]? = some l) : lgB ls j = (decide (0 ≤ l.fo ∧ l.fo < 16) && (decide (j = 0) || decide ((ls[j - 1]?.map Lg.fo).getD 0 < l.fo)) && fineN l.es) := by
  unfold lgB; rw [h]
theorem lgB_bad1 {ls : List Lg} {j : Nat} {l : Lg} (h : ls[j]? = some l) (h1 : ¬ (0 ≤ l.fo ∧ l.fo < 16)) : lgB ls j = false := by rw [lgB_eq h, decide_eq_false h1]; rfl
theorem lgB_bad2 {ls : List Lg} {j : Nat} {l : Lg} (h : ls[j]? = some l) (h0 : 0 < j) (h1 : l.fo ≤ (ls[j - 1]?.map Lg.fo).getD 0) : lgB ls j = false := by
  rw [lgB_eq h, decide_eq_false (show ¬ j = 0 by omega), decide_eq_false (show ¬ (ls[j - 1]?.map Lg.fo).getD 0 < l.fo by omega)]; simp
theorem lgB_bad3 {ls : List Lg} {j : Nat} {l : Lg} (h : ls[j]? = some l) (h1 : fineN l.es = false) : lgB ls j = false := by rw [lgB_eq h, h1, Bool.and_false]
theorem lgB_ok {ls : List Lg} {j : Nat} {l : Lg} (h : ls[j]? = some l) (h1 : 0 ≤ l.fo ∧ l.fo < 16) (h2 : j = 0 ∨ (ls[j - 1]?.map Lg.fo).getD 0 < l.fo) (h3 : fineN l.es = true) : lgB ls j = true := by
  rw [lgB_eq h, h3, decide_eq_true h1]
  rcases h2 with h2 | h2
  · rw [decide_eq_true h2]; rfl
  · rw [decide_eq_true h2]; simp
theorem checkN_new {s : Sto} (h : ¬ (newP s.id s.priv).2.2 = 0) : checkN s = 300 := by rw [checkN_def, if_neg (fun q => h q.1)]
theorem checkN_no {s : Sto} (h : logsN s.logs = false) : checkN s = 300 := by rw [checkN_def, if_neg (fun q => by rw [h] at q; cases q.2)]
theorem checkN_yes {s : Sto} (h1 : (newP s.id s.priv).2.2 = 0) (h : logsN s.logs = true) : checkN s = 0 := by rw [checkN_def, if_pos ⟨h1, h⟩]
noncomputable def openE (s : Sto) (f : Int) : Int := (kept (if checkN s = 0 then (if 0 ≤ f ∧ f < 16 then 0 else 1) else checkN s)).1
theorem openE_def (s : Sto) (f : Int) : openE s f = (if checkN s = 0 then (if 0 ≤ f ∧ f < 16 then 0 else 1) else checkN s) := (kept _).2
def Srt (ls : List Lg) : Prop := ∀ (i j : Nat) (li lj : Lg), i < j → ls[i]? = some li → ls[j]? = some lj → li.fo < lj.fo
/-- Where a folder's log lies, or belongs. -/
structure Pos (ls : List Lg) (f : Int) (p : Nat) : Prop where
  le : p ≤ ls.length
  lo : ∀ (j : Nat) (l : Lg), j < p → ls[j]? = some l → l.fo < f
  hi : ∀ (j : Nat) (l : Lg), p ≤ j → ls[j]? = some l → f ≤ l.fo
def atF (ls : List Lg) (f : Int) (p : Nat) : Bool := match ls[p]? with
  | some l => decide (l.fo = f)
  | none => false
theorem atF_some {ls : List Lg} {f : Int} {p : Nat} (h : atF ls f p = true) : ∃ l, ls[p]? = some l ∧ l.fo = f := by
  unfold atF at h
  cases hl : ls[p]? with
  | none => rw [hl] at h; cases h
  | some l => rw [hl] at h; exact ⟨l, rfl, by simpa using h⟩
theorem cmpI_lt {a b : Int} (h : cmpI a b < 0) : a < b := by unfold cmpI at h; split at h <;> (try split at h) <;> omega
theorem cmpI_ge {a b : Int} (h : ¬ cmpI a b < 0) : b ≤ a := by unfold cmpI at h; split at h <;> (try split at h) <;> omega
theorem cmpI_eq (a b : Int) : decide (cmpI a b = 0) = decide (a = b) := by
  apply decide_eq_decide.2
  unfold cmpI
  split <;> (try split) <;> omega
theorem lo_step {ls : List Lg} (hs : Srt ls) {f : Int} {h : Nat} {l : Lg} (hl : ls[h]? = some l) (hc : l.fo < f) : ∀ j q, j < h + 1 → ls[j]? = some q → q.fo < f := fun j q hj hq => by
  rcases Nat.lt_succ_iff_lt_or_eq.1 hj with h1 | h1
  · have := hs j h q l h1 hq hl; omega
  · rw [h1, hl] at hq; obtain rfl := Option.some.inj hq; exact hc
theorem hi_step {ls : List Lg} (hs : Srt ls) {f : Int} {h : Nat} {l : Lg} (hl : ls[h]? = some l) (hc : f ≤ l.fo) : ∀ j q, h ≤ j → ls[j]? = some q → f ≤ q.fo := fun j q hj hq => by
  rcases Nat.eq_or_lt_of_le hj with h1 | h1
  · rw [← h1, hl] at hq; obtain rfl := Option.some.inj hq; exact hc
  · have := hs h j l q h1 hl hq; omega
theorem sorted_of {ls : List Lg} (h : logsN ls = true) : Srt ls := by
  have hall : ∀ j, j < ls.length → lgB ls j = true := fun j hj => by
    unfold logsN at h
    exact List.all_eq_true.1 h j (List.mem_range.2 hj)
  have step : ∀ j lj l0, ls[j + 1]? = some lj → ls[j]? = some l0 → l0.fo < lj.fo := fun j lj l0 h1 h0 => by
    have := hall (j + 1) (List.getElem?_eq_some_iff.1 h1).1
    rw [lgB_eq h1] at this
    simp only [Bool.and_eq_true, Bool.or_eq_true, decide_eq_true_eq] at this
    rcases this.1.2 with h2 | h2
    · omega
    · rw [Nat.add_sub_cancel, h0] at h2; exact h2
  intro i j li lj hij hi hj
  induction j generalizing lj with
  | zero => omega
  | succ j ih =>
    obtain ⟨l0, h0⟩ : ∃ l0, ls[j]? = some l0 := ⟨ls[j]'(by have := (List.getElem?_eq_some_iff.1 hj).1; omega), by simp⟩
    have := step j lj l0 hj h0
    rcases Nat.lt_succ_iff_lt_or_eq.1 hij with h2 | h2
    · have := ih l0 h2 h0; omega
    · subst h2; rw [hi] at h0; obtain rfl := Option.some.inj h0; exact this
end Go.W
/-! Plain: copies. -/
namespace Go.W
open Go Go.RowKit
theorem all1_flatten {els : List (List Value)} (h : ∀ e ∈ els, all1 e = true) : all1 els.flatten = true := by
  simp only [all1, List.all_eq_true] at *
  intro v hv
  obtain ⟨e, he, hve⟩ := List.mem_flatten.1 hv
  exact h e he v hve
theorem enE_all1 (es : List En) : all1 (enE es).flatten = true := all1_flatten fun e he => by obtain ⟨x, _, rfl⟩ := List.mem_map.1 he; exact En.c_all1 x
theorem lgE_all1 (ls : List Lg) : all1 (lgE ls).flatten = true := all1_flatten fun e he => by obtain ⟨x, _, rfl⟩ := List.mem_map.1 he; rfl
theorem RdS.none_len {H : Froz} {n k : Nat} {cs : List Value} (h : RdS H none n k cs) : n = 0 := by
  rcases Nat.eq_zero_or_pos n with h0 | h0
  · exact h0
  · exact absurd rfl (h.some h0)
theorem isNone_some {α : Type} {a : Option α} (h : a.isNone = true) : a = none := by cases a <;> simp_all
theorem OwS_empty {T : TypeId} {sz n : Nat} {xs : List Value} (h0 : n = 0) (hx : xs.length = n * sz) : OwS T sz (.slice none n 0) n xs [] := by
  subst h0
  have : xs = [] := List.eq_nil_of_length_eq_zero (by omega)
  subst this
  exact .nil
theorem OwS.row0 (b : Nat) (T : TypeId) (sz : Nat) : OwS T sz (.slice (some ⟨b, 0, none⟩) 0 0) 0 [] [⟨b, [], T⟩] := .row (xs := []) (tail := []) (by simp) (by simp) (Nat.le_refl 0) (by decide)
def idxDg (es : List En) (d : Dg) : Int := match es.findIdx? (fun e => decide (e.dg = d)) with | some i => i | none => -1
theorem idxDg_yes {es : List En} {d : Dg} {k : Nat} (h : k < es.length) (hb : es[k].dg = d) (hno : ∀ j (h : j < k) (h2 : j < es.length), ¬ es[j].dg = d) : idxDg es d = k := by
  have : es.findIdx? (fun e => decide (e.dg = d)) = some k := List.findIdx?_eq_some_iff_getElem.2 ⟨h, by simp [hb], fun j hj => by simp [hno j hj (Nat.lt_trans hj h)]⟩
  simp [idxDg, this]
theorem idxDg_no {es : List En} {d : Dg} (hno : ∀ j (h2 : j < es.length), ¬ es[j].dg = d) : idxDg es d = -1 := by
  have : es.findIdx? (fun e => decide (e.dg = d)) = none := List.findIdx?_eq_none_iff.2 fun x hx => by obtain ⟨j, hj, rfl⟩ := List.mem_iff_getElem.1 hx; simp [hno j hj]
  simp [idxDg, this]
end Go.W
/-! Plain: copies of entries. -/
namespace Go.W
open Go Go.RowKit
theorem RdL.rd_en {H : Froz} {a : Option Addr} {es : List En} (h : RdL H a 35 (enE es)) : RdS H a es.length 35 (enE es).flatten := by
  have := h.rd
  rwa [show (enE es).length = es.length by simp [enE]] at this
theorem RdL.of_en {H : Froz} {a : Option Addr} {es : List En} (h : RdS H a es.length 35 (enE es).flatten) : RdL H a 35 (enE es) :=
  ⟨by rw [show (enE es).length = es.length by simp [enE]]; exact h, fun x hx => by obtain ⟨e, _, rfl⟩ := List.mem_map.1 hx; exact En.c_len e⟩
/-- The entry with its data elsewhere. -/
def En.re (e : En) (a : Option Addr) (n c : Nat) : En := { e with da := a, dn := n, dp := c }
def En.key (e : En) : Int × Dg × List UInt8 × Bool := (e.kind, e.dg, e.bs, e.gone)
theorem En.re_key (e : En) (a : Option Addr) (n c : Nat) : (e.re a n c).key = e.key := rfl
theorem enE_each (es : List En) : ∀ x ∈ enE es, x.length = 35 := fun x hx => by obtain ⟨e, _, rfl⟩ := List.mem_map.1 hx; exact En.c_len e
theorem enE_len (es : List En) : (enE es).flatten.length = es.length * 35 := by rw [flatten_len (enE_each es)]; simp [enE]
theorem clone_ld {es : List En} {tail : List Value} {k : Nat} {e : En} (h : es[k]? = some e) : ldv false 1 ((enE es).flatten ++ tail) (k * 35 + 33) = some (.slice e.da e.dn e.dp) := by
  have h1 := ldv_flatten (agg := false) (sz := 1) (off := 33) (i := k) (enE_each es) (show (enE es)[k]? = some e.c by simp [enE, h]) (by decide) (by decide) (En.ld_da e)
  simp only [ldv, cond_false] at h1 ⊢
  rw [List.getElem?_append_left (List.getElem?_eq_some_iff.1 h1).1]
  exact h1
theorem En.c_set (e : En) (a : Option Addr) (n c : Nat) : e.c.set 33 (.slice a n c) = (e.re a n c).c := by
  simp only [En.c, En.re]
  rw [List.set_cons_succ, List.set_append_right _ _ (by rw [dc_length]; exact Nat.le_refl _), dc_length]
  rfl
theorem clone_st {es : List En} {tail : List Value} {k : Nat} {e : En} (h : es[k]? = some e) (a : Option Addr) (n c : Nat) : spl ((enE es).flatten ++ tail) (k * 35 + 33) [.slice a n c] = (enE (es.set k (e.re a n c))).flatten ++ tail := by
  obtain ⟨hk, he⟩ := List.getElem?_eq_some_iff.1 h
  have hl := enE_len es
  rw [spl_set _ _ _ (by rw [List.length_append, hl]; omega), List.set_append_left _ _ (by rw [hl]; omega)]
  congr 1
  have hsplit : enE es = enE (es.take k) ++ e.c :: enE (es.drop (k + 1)) := by
    have : es = es.take k ++ e :: es.drop (k + 1) := by rw [← he, ← List.drop_eq_getElem_cons hk, List.take_append_drop]
    conv => lhs; rw [this]
    simp [enE]
  have hset : enE (es.set k (e.re a n c)) = enE (es.take k) ++ (e.re a n c).c :: enE (es.drop (k + 1)) := by
    rw [List.set_eq_take_append_cons_drop, if_pos hk]
    simp [enE]
  have hA : (enE (es.take k)).flatten.length = k * 35 := by rw [enE_len, List.length_take, Nat.min_eq_left (by omega)]
  rw [hsplit, hset, List.flatten_append, List.flatten_append, List.flatten_cons, List.flatten_cons, List.set_append_right _ _ (by rw [hA]; omega), hA, Nat.add_sub_cancel_left, List.set_append_left _ _ (by rw [En.c_len]; decide), En.c_set]
theorem clone_key {es es0 : List En} {k : Nat} {e : En} (h : es[k]? = some e) (hk : es.map En.key = es0.map En.key) (a : Option Addr) (n c : Nat) : (es.set k (e.re a n c)).map En.key = es0.map En.key := by
  rw [List.map_set, En.re_key, ← hk]
  apply List.ext_getElem?
  intro j
  rw [List.getElem?_set]
  split
  · rename_i hj
    subst hj
    split
    · simp [h]
    · rename_i h2; simp at h2; rw [List.getElem?_eq_none (by simpa using h2)]
  · rfl
theorem clone_ok {H : Froz} {es : List En} {k : Nat} {e : En} (ho : EnsOK H es) {a : Option Addr} {n c : Nat} (h : RdS H a n 1 (bc e.bs)) (h1 : n ≤ c) (h2 : n ≤ 1000000) : EnsOK H (es.set k (e.re a n c)) := by
  intro x hx
  rcases List.mem_or_eq_of_mem_set hx with hx | rfl
  · exact ho x hx
  · exact ⟨h, h1, h2⟩
theorem OwS.fam {T : TypeId} {n c : Nat} {a : Option Addr} {es : List En} {Lx : List Blk} (h : OwS T 35 (.slice a n c) n (enE es).flatten Lx) : ∃ fL : List En → List Blk, fL es = Lx ∧ (∀ es', es'.length = es.length → OwS T 35 (.slice a n c) n (enE es').flatten (fL es')) ∧
    (0 < n → ∃ b tail, a = some ⟨b, 0, none⟩ ∧ ∀ es', fL es' = [⟨b, (enE es').flatten ++ tail, T⟩]) := by
  have hl := h.len
  rw [enE_len] at hl
  generalize hv : Value.slice a n c = v at h
  generalize hxs : (enE es).flatten = xs at h
  cases h with
  | nil =>
    simp only [Value.slice.injEq, true_and] at hv
    obtain ⟨rfl, rfl⟩ := hv
    refine ⟨fun _ => [], rfl, fun es' he => ?_, fun h0 => absurd h0 (by omega)⟩
    have : (enE es').flatten = [] := List.eq_nil_of_length_eq_zero (by rw [enE_len, he]; omega)
    rw [this]
    exact .nil
  | row h1 h2 h3 h4 =>
    simp only [Value.slice.injEq, true_and] at hv
    obtain ⟨rfl, rfl⟩ := hv
    rename_i b tail
    refine ⟨fun es' => [⟨b, (enE es').flatten ++ tail, T⟩], by subst hxs; rfl, fun es' he => ?_, fun _ => ⟨b, tail, rfl, fun _ => rfl⟩⟩
    refine .row (by rw [enE_len, he, hl]) ?_ h3 h4
    rw [← h2, ← hxs]
    simp only [List.length_append, enE_len, he]
end Go.W
/-! Plain: what is fetched. -/
namespace Go.W
open Go Go.RowKit
def entF (ls : List Lg) (f : Int) : List En := match ls.find? (fun l => decide (l.fo = f)) with
  | some l => l.es
  | none => []
theorem entF_yes {ls : List Lg} {f : Int} {p : Nat} {l : Lg} (hp : Pos ls f p) (ha : atF ls f p = true) (hl : ls[p]? = some l) : entF ls f = l.es := by
  have hlf : l.fo = f := by
    obtain ⟨l', h1, h2⟩ := atF_some ha
    rw [hl] at h1; obtain rfl := Option.some.inj h1; exact h2
  obtain ⟨hlt, hle⟩ := List.getElem?_eq_some_iff.1 hl
  have : ls.find? (fun l => decide (l.fo = f)) = some l := by
    rw [List.find?_eq_some_iff_getElem]
    refine ⟨by simp [hlf], p, hlt, hle, fun j hj => ?_⟩
    have := hp.lo j (ls[j]'(Nat.lt_trans hj hlt)) hj (by simp)
    simp
    omega
  simp [entF, this]
theorem entF_no {ls : List Lg} {f : Int} {p : Nat} (hs : Srt ls) (hp : Pos ls f p) (ha : atF ls f p = false) : entF ls f = [] := by
  have : ls.find? (fun l => decide (l.fo = f)) = none := by
    rw [List.find?_eq_none]
    intro x hx
    obtain ⟨j, hj⟩ := List.mem_iff_getElem?.1 hx
    have hne : ¬ x.fo = f := by
      intro he
      rcases Nat.lt_or_ge j p with h | h
      · have := hp.lo j x h hj; omega
      · have hjl := (List.getElem?_eq_some_iff.1 hj).1
        obtain ⟨l, hl⟩ : ∃ l, ls[p]? = some l := ⟨ls[p]'(by omega), by simp⟩
        have hpl := hp.hi p l (Nat.le_refl _) hl
        have hnf : ¬ l.fo = f := by
          unfold atF at ha
          rw [hl] at ha
          simpa using ha
        rcases Nat.eq_or_lt_of_le h with h1 | h1
        · subst h1; rw [hl] at hj; obtain rfl := Option.some.inj hj; exact hnf he
        · have := hs p j l x h1 hl hj; omega
    simp [hne]
  simp [entF, this]
noncomputable def fetchE (s : Sto) (f from_ : Int) : Int := (kept (if openE s f = 0 then (if from_ < 1 ∨ ((entF s.logs f).length : Int) + 1 < from_ then 1 else 0) else openE s f)).1
theorem fetchE_def (s : Sto) (f from_ : Int) : fetchE s f from_ = (if openE s f = 0 then (if from_ < 1 ∨ ((entF s.logs f).length : Int) + 1 < from_ then 1 else 0) else openE s f) := (kept _).2
noncomputable def fetchL (s : Sto) (f from_ : Int) : List En := if fetchE s f from_ = 0 then (entF s.logs f).drop (from_ - 1).toNat else []
theorem openE_ok {s : Sto} {f : Int} (h : openE s f = 0) : checkN s = 0 ∧ 0 ≤ f ∧ f < 16 := by
  rw [openE_def] at h
  split at h
  · rename_i h1
    split at h
    · rename_i h2; exact ⟨h1, h2⟩
    · cases h
  · rename_i h1; exact absurd h h1
theorem checkN_ok {s : Sto} (h : checkN s = 0) : logsN s.logs = true := by
  rw [checkN_def] at h
  split at h
  · rename_i h1; exact h1.2
  · cases h
theorem drop_rd {H : Froz} {a : Option Addr} {es : List En} {q c : Nat} (h : RdL H a 35 (enE es)) (hq : q ≤ es.length) (hc : es.length ≤ c) : RdL H (cutA a c q 35) 35 (enE (es.drop q)) := by
  have h1 := h.cut (c := c) (l := q) (h := es.length) hq (by simp [enE]) hc
  rw [List.take_of_length_le (by simp [enE])] at h1
  rwa [show (enE es).drop q = enE (es.drop q) by simp [enE, List.map_drop]] at h1
theorem drop_ok {H : Froz} {es : List En} {q : Nat} (h : EnsOK H es) : EnsOK H (es.drop q) := fun e he => h e (List.mem_of_mem_drop he)
theorem LgOK.nil (H : Froz) (f : Int) : LgOK H ⟨f, none, 0, []⟩ := ⟨RdL.nil H none 35, (fun _ h => by cases h), by simp, by simp⟩
end Go.W
/-! Plain: copies of logs. -/
namespace Go.W
open Go Go.RowKit
theorem St.cast {B : Base} {H : Froz} {L L' : List Blk} {w : World} (h : St B H L w) (e : L = L') : St B H L' w := e ▸ h
def Lg.re (l : Lg) (a : Option Addr) (c : Nat) (es : List En) : Lg := ⟨l.fo, a, c, es⟩
def Lg.key (l : Lg) : Int × List (Int × Dg × List UInt8 × Bool) := (l.fo, l.es.map En.key)
theorem Lg.c_len (l : Lg) : l.c.length = 2 := rfl
theorem lgE_each (ls : List Lg) : ∀ x ∈ lgE ls, x.length = 2 := fun x hx => by obtain ⟨e, _, rfl⟩ := List.mem_map.1 hx; rfl
theorem lgE_len (ls : List Lg) : (lgE ls).flatten.length = ls.length * 2 := by rw [flatten_len (lgE_each ls)]; simp [lgE]
theorem clog_ld {ls : List Lg} {tail : List Value} {k : Nat} {l : Lg} (h : ls[k]? = some l) : ldv false 1 ((lgE ls).flatten ++ tail) (k * 2 + 1) = some (.slice l.ea l.es.length l.ec) := by
  have h1 := ldv_flatten (agg := false) (sz := 1) (off := 1) (i := k) (lgE_each ls) (show (lgE ls)[k]? = some l.c by simp [lgE, h]) (by decide) (by decide) (show ldv false 1 l.c 1 = some (.slice l.ea l.es.length l.ec) from rfl)
  simp only [ldv, cond_false] at h1 ⊢
  rw [List.getElem?_append_left (List.getElem?_eq_some_iff.1 h1).1]
  exact h1
theorem clog_st {ls : List Lg} {tail : List Value} {k : Nat} {l : Lg} (h : ls[k]? = some l) (a : Option Addr) (c : Nat) (es : List En) : spl ((lgE ls).flatten ++ tail) (k * 2 + 1) [.slice a es.length c] = (lgE (ls.set k (l.re a c es))).flatten ++ tail := by
  obtain ⟨hk, he⟩ := List.getElem?_eq_some_iff.1 h
  have hl := lgE_len ls
  rw [spl_set _ _ _ (by rw [List.length_append, hl]; omega), List.set_append_left _ _ (by rw [hl]; omega)]
  congr 1
  have hsplit : lgE ls = lgE (ls.take k) ++ l.c :: lgE (ls.drop (k + 1)) := by
    have : ls = ls.take k ++ l :: ls.drop (k + 1) := by rw [← he, ← List.drop_eq_getElem_cons hk, List.take_append_drop]
    conv => lhs; rw [this]
    simp [lgE]
  have hset : lgE (ls.set k (l.re a c es)) = lgE (ls.take k) ++ (l.re a c es).c :: lgE (ls.drop (k + 1)) := by
    rw [List.set_eq_take_append_cons_drop, if_pos hk]
    simp [lgE]
  have hA : (lgE (ls.take k)).flatten.length = k * 2 := by rw [lgE_len, List.length_take, Nat.min_eq_left (by omega)]
  rw [hsplit, hset, List.flatten_append, List.flatten_append, List.flatten_cons, List.flatten_cons, List.set_append_right _ _ (by rw [hA]; omega), hA, Nat.add_sub_cancel_left, List.set_append_left _ _ (by rw [Lg.c_len]; decide)]
  rfl
theorem clog_key {ls ls0 : List Lg} {k : Nat} {l : Lg} (h : ls[k]? = some l) (hk : ls.map Lg.key = ls0.map Lg.key) (a : Option Addr) (c : Nat) {es : List En} (hes : es.map En.key = l.es.map En.key) : (ls.set k (l.re a c es)).map Lg.key = ls0.map Lg.key := by
  have hre : (l.re a c es).key = l.key := by simp [Lg.key, Lg.re, hes]
  rw [List.map_set, hre, ← hk]
  apply List.ext_getElem?
  intro j
  rw [List.getElem?_set]
  split
  · rename_i hj
    subst hj
    split
    · simp [h]
    · rename_i h2; simp at h2; rw [List.getElem?_eq_none (by simpa using h2)]
  · rfl
theorem OwS.famL {T : TypeId} {n c : Nat} {a : Option Addr} {ls : List Lg} {Lx : List Blk} (h : OwS T 2 (.slice a n c) n (lgE ls).flatten Lx) : ∃ fL : List Lg → List Blk, fL ls = Lx ∧ (∀ ls', ls'.length = ls.length → OwS T 2 (.slice a n c) n (lgE ls').flatten (fL ls')) ∧
    (0 < n → ∃ b tail, a = some ⟨b, 0, none⟩ ∧ ∀ ls', fL ls' = [⟨b, (lgE ls').flatten ++ tail, T⟩]) := by
  have hl := h.len
  rw [lgE_len] at hl
  generalize hv : Value.slice a n c = v at h
  generalize hxs : (lgE ls).flatten = xs at h
  cases h with
  | nil =>
    simp only [Value.slice.injEq, true_and] at hv
    obtain ⟨rfl, rfl⟩ := hv
    refine ⟨fun _ => [], rfl, fun ls' he => ?_, fun h0 => absurd h0 (by omega)⟩
    have : (lgE ls').flatten = [] := List.eq_nil_of_length_eq_zero (by rw [lgE_len, he]; omega)
    rw [this]
    exact .nil
  | row h1 h2 h3 h4 =>
    simp only [Value.slice.injEq, true_and] at hv
    obtain ⟨rfl, rfl⟩ := hv
    rename_i b tail
    refine ⟨fun ls' => [⟨b, (lgE ls').flatten ++ tail, T⟩], by subst hxs; rfl, fun ls' he => ?_, fun _ => ⟨b, tail, rfl, fun _ => rfl⟩⟩
    refine .row (by rw [lgE_len, he, hl]) ?_ h3 h4
    rw [← h2, ← hxs]
    simp only [List.length_append, lgE_len, he]
theorem RdL.rd_lg {H : Froz} {a : Option Addr} {ls : List Lg} (h : RdL H a 2 (lgE ls)) : RdS H a ls.length 2 (lgE ls).flatten := by
  have := h.rd
  rwa [show (lgE ls).length = ls.length by simp [lgE]] at this
theorem RdL.of_lg {H : Froz} {a : Option Addr} {ls : List Lg} (h : RdS H a ls.length 2 (lgE ls).flatten) : RdL H a 2 (lgE ls) :=
  ⟨by rw [show (lgE ls).length = ls.length by simp [lgE]]; exact h, lgE_each ls⟩
end Go.W
/-! Plain: entries held against each other. -/
namespace Go.W
open Go Go.RowKit
theorem bstr_inj {a b : List UInt8} (h : (bstr a).toList = (bstr b).toList) : a = b := by
  have e : ∀ l : List UInt8, (bstr l).toList = l := fun l => by rw [ByteArray.toList_eq]; simp [bstr]
  rw [e, e] at h
  exact h
theorem key_eq {e g : En} (h1 : e.kind = g.kind) (h2 : e.dg = g.dg) (h3 : (bstr e.bs).toList = (bstr g.bs).toList) (h4 : (!(e.gone == g.gone)) = false) : e.key = g.key := by
  have h5 : e.gone = g.gone := by simpa using h4
  rw [En.key, En.key, h1, h2, bstr_inj h3, h5]
theorem key_ne1 {e g : En} (h : ¬ e.kind = g.kind) : ¬ e.key = g.key := fun q => h (congrArg (·.1) q)
theorem key_ne2 {e g : En} (h : ¬ e.dg = g.dg) : ¬ e.key = g.key := fun q => h (congrArg (·.2.1) q)
theorem key_ne3 {e g : En} (h : ¬ (bstr e.bs).toList = (bstr g.bs).toList) : ¬ e.key = g.key := fun q => h (by rw [show e.bs = g.bs from congrArg (·.2.2.1) q])
theorem key_ne4 {e g : En} (h : (!(e.gone == g.gone)) = true) : ¬ e.key = g.key := fun q => by
  have : e.gone = g.gone := congrArg (·.2.2.2) q
  rw [this] at h
  simp at h
def sameEs (es fs : List En) : Bool := decide (es.map En.key = fs.map En.key)
theorem sameEs_len {es fs : List En} (h : ¬ es.length = fs.length) : sameEs es fs = false := decide_eq_false fun q => h (by simpa using congrArg List.length q)
theorem sameEs_no {es fs : List En} {k : Nat} (h1 : k < es.length) (h2 : k < fs.length) (h : ¬ es[k].key = fs[k].key) : sameEs es fs = false := decide_eq_false fun q => h (by
  have := congrArg (fun l => l[k]?) q
  simpa [h1, h2] using this)
theorem sameEs_yes {es fs : List En} (hl : es.length = fs.length) (h : ∀ (k : Nat) (h1 : k < es.length) (h2 : k < fs.length), es[k].key = fs[k].key) : sameEs es fs = true := decide_eq_true (by
  apply List.ext_getElem
  · simpa using hl
  · intro k h1 h2
    simp only [List.getElem_map]
    exact h k (by simpa using h1) (by simpa using h2))
end Go.W
namespace Go.W
noncomputable def sameSt (s t : Sto) : Bool := @decide (s.id = t.id ∧ s.priv = t.priv ∧ s.logs.map Lg.key = t.logs.map Lg.key) (Classical.propDecidable _)
theorem sameSt_no {s t : Sto} (h : ¬ (s.id = t.id ∧ s.priv = t.priv ∧ s.logs.length = t.logs.length)) : sameSt s t = false := @decide_eq_false _ (Classical.propDecidable _) fun q => h ⟨q.1, q.2.1, by simpa using congrArg List.length q.2.2⟩
theorem lkey_ne1 {l m : Lg} (h : ¬ l.fo = m.fo) : ¬ l.key = m.key := fun q => h (congrArg (·.1) q)
theorem lkey_ne2 {l m : Lg} (h : (!(sameEs l.es m.es)) = true) : ¬ l.key = m.key := fun q => by
  have : l.es.map En.key = m.es.map En.key := congrArg (·.2) q
  simp [sameEs, this] at h
theorem lkey_eq {l m : Lg} (h1 : l.fo = m.fo) (h : (!(sameEs l.es m.es)) = false) : l.key = m.key := by
  have : l.es.map En.key = m.es.map En.key := by simpa [sameEs] using h
  rw [Lg.key, Lg.key, h1, this]
theorem sameSt_bad {s t : Sto} {k : Nat} (h1 : k < s.logs.length) (h2 : k < t.logs.length) (h : ¬ s.logs[k].key = t.logs[k].key) : sameSt s t = false := @decide_eq_false _ (Classical.propDecidable _) fun q => h (by
  have := congrArg (fun l => l[k]?) q.2.2
  simpa [h1, h2] using this)
theorem sameSt_yes {s t : Sto} (h1 : s.id = t.id) (h2 : s.priv = t.priv) (hl : s.logs.length = t.logs.length) (h : ∀ (k : Nat) (h1 : k < s.logs.length) (h2 : k < t.logs.length), s.logs[k].key = t.logs[k].key) : sameSt s t = true := @decide_eq_true _ (Classical.propDecidable _) ⟨h1, h2, by
  apply List.ext_getElem
  · simpa using hl
  · intro k h1 h2
    simp only [List.getElem_map]
    exact h k (by simpa using h1) (by simpa using h2)⟩
end Go.W
/-! Zeros appended to the beginning of what is owned. -/
namespace Go.W
open Go Go.RowKit
section
variable {P : Program} {ops : Array Oper} {Q : Exit → Act → World → Prop} {n d : Nat} {a : Act} {F : Fr} {w : World} {B : Base} {H : Froz} {L Lx : List Blk}
  {ty T tx E : TypeId} {pos : String} {after : Array Edge} {v u : Value} {x y : Operand} {K : Act → World → Prop} {g : Option (Nat × Bool)} {agg : Bool} {sz bytes : Nat}
theorem l_appendZO {m i j b c : Nat} {cs zs : List Value} {T' : TypeId} {k0 : IntKind} {mi : Int} (h1 : P.underlying T = some (.slice E)) (h2 : P.underlying tx = some (.int k0)) (ht : tyS P E = some (agg, sz)) (hz : zrS P E = some zs) (hby : byS P E = some bytes) (hF : Has n a F) (hS : St B H L w)
    (hx : oev F x = some (.slice (some ⟨b, 0, none⟩) i c)) (hy : oev F y = some (.int .i64 mi)) (hmi : mi = (m : Int)) (hj : L[j]? = some ⟨b, cs, T'⟩) (hcs : i * sz ≤ cs.length) (hm : 0 < m) (hc : c < i + m) (hb : (i + m) * bytes ≤ 140737488355328) (hmm : i + m ≤ maxLen) (hzl : zs.length = sz) (hsz : 0 < sz) (hd : Nat.blt d n = true)
    (kk : ∀ a' w' b' c' tail, (cs.take (i * sz) ++ tail).length = c' * sz → i + m ≤ c' → c' ≤ maxLen → Has n a' ((d, .slice (some ⟨b', 0, none⟩) (i + m) c') :: F) → St B H (⟨b', cs.take (i * sz) ++ tail, E⟩ :: L) w' → K a' w') :
    (⟨some d, .call ⟨.builtin .append, #[x, y], #[T, tx]⟩, ty, pos, after, g⟩ : Oper).wp P a w K Q := by
  subst hmi
  obtain ⟨dd, q, p1, hi, p3, p4⟩ := tyS_parts ht
  obtain ⟨q', zv, z1, z2, z3⟩ := zrS_parts hz
  obtain rfl := Option.some.inj (hi.symm.trans z1)
  have hbb : q.bytes = bytes := by simpa [byS, hi] using hby
  have hzs : zv.cells.size = sz := by rw [← hzl, ← z3]; simp
  have hmx : i + m ≤ 9223372036854775807 := by simp only [maxLen] at hmm; omega
  have w1 : IntKind.i64.wrap (m : Int) = m := wrap_i64 (by omega)
  have hge := grownCap_ge w (i + m) c E
  have hle := grownCap_le_maxLen w (i + m) c E hmm
  have hold : (Builtin.firstCells q.size i (.slice (some ⟨b, 0, none⟩) i c)).run P w.drew = .ok (cs.take (i * sz)).toArray w.drew :=
    run_firstCells_some (P := P) w.drew q.size i ⟨b, 0, none⟩ i c _ (by rw [List.length_take, p4]; omega) (fun k u hk => by
      rw [Addr.add_lit, Nat.zero_add]
      rw [List.getElem?_take] at hk
      split at hk
      · exact cell_of_own hS.drew hj hk
      · cases hk)
  obtain ⟨tail, htl⟩ : ∃ tail : Array Value, tail = (Builtin.zeroCells zv.cells m) ++ Builtin.zeroCells zv.cells (grownCap w (i + m) c E - (i + m)) := ⟨_, rfl⟩
  have hrun : (Builtin.append_ #[T, tx] ty #[.slice (some ⟨b, 0, none⟩) i c, .int .i64 (m : Int)]).run P w = .ok (.slice (some ⟨w.heap.size, 0, none⟩) (i + m) (grownCap w (i + m) c E)) (w.drew.alloc (.cells ((cs.take (i * sz)).toArray ++ tail) E)) := by
    have hn : ¬ (i + m ≤ c) := by omega
    have hne : ¬ (m * q.size = 0) := by rw [p4]; exact Nat.ne_of_gt (Nat.mul_pos hm hsz)
    have e3 : ¬ ((m : Int) < 0) := by omega
    have h63' : ¬ (9223372036854775807 < ((i : Int) + (m : Int))) := by omega
    have h48' : ¬ (281474976710656 < Builtin.nextslicecap (i + m) c * q.bytes) := by have := growslice_fits (need := i + m) (old := c) (bytes := q.bytes) hc (by rw [hbb]; exact hb); omega
    have h49 : ¬ (281474976710656 < (m : Int) * (q.bytes : Int)) := by
      have e1 : ((m * q.bytes : Nat) : Int) = (m : Int) * (q.bytes : Int) := by push_cast; rfl
      have e2 : m * q.bytes ≤ (i + m) * q.bytes := Nat.mul_le_mul_right _ (by omega)
      rw [hbb] at e1 e2 ⊢
      omega
    subst htl
    simp [Builtin.append_, run_underlying h1, run_underlying h2, sizeOf, typeInfo, zeroValue, hi, z2, asInt, asIntOf, w1, hn, e3, h63', h48', h49, Question.forced, hold, newRow, grownCap]
    intro h0
    exact absurd h0 hne
  unfold Oper.wp
  rw [append_exec (hF.eval hx) (hF.eval hy) hrun]
  refine kk _ _ _ _ tail.toList ?_ hge hle (hF.put hd _) ?_
  · rw [htl, List.length_append, List.length_take, Nat.min_eq_left hcs]
    simp only [Array.length_toList, Array.size_append, size_zeroCells, hzs, ← Nat.add_mul]
    congr 1
    omega
  · have := hS.drawAlloc (cs.take (i * sz) ++ tail.toList) E
    rw [← List.append_toArray, Array.toArray_toList] at this
    exact this
end
end Go.W
/-! slices.overlaps of two owned blocks. -/
namespace Go.W
open Go Go.RowKit
section
variable {P : Program} {B : Base} {H : Froz} {L : List Blk} {F : Fr} {ty tS tR E : TypeId} {x y : Operand} {agg : Bool} {sz : Nat}
theorem shape_own {w : World} (hS : St B H L w) {i b : Nat} {cs : List Value} {T : TypeId} (hi : L[i]? = some ⟨b, cs, T⟩) : w.shape? b = some (T, cs.length) := by
  have ho := hS.own _ (List.mem_of_getElem? hi)
  simp only [] at ho
  unfold World.shape?
  simp [ho]
theorem froz_own {w : World} (hS : St B H L w) {i b : Nat} {cs : List Value} {T : TypeId} (hi : L[i]? = some ⟨b, cs, T⟩) (o : Nat) : w.frozen? ⟨b, o, none⟩ = false := by
  have ho := hS.own _ (List.mem_of_getElem? hi)
  simp only [] at ho
  simp [World.frozen?, ho]
theorem q_overlaps {f : FuncId} {fn : Func} {ts : Array TypeId} {i j b1 b2 o1 o2 n1 c1 n2 c2 : Nat} {cs1 cs2 : List Value} {T1 T2 : TypeId} (hf : P.funcs[f]? = some fn) (hname : (fn.name == "runtime.NumGoroutine") = false) (hbody : fn.body = none) (hnx : (Extern.findNext fn).isNone = true)
    (hfind : Extern.find fn = some (Extern.SlicesOverlaps.overlaps #[tS, tS] #[tR])) (hu : P.underlying tS = some (.slice E)) (ht : tyS P E = some (agg, sz))
    (hx : oev F x = some (.slice (some ⟨b1, o1, none⟩) n1 c1)) (hy : oev F y = some (.slice (some ⟨b2, o2, none⟩) n2 c2)) (hi : L[i]? = some ⟨b1, cs1, T1⟩) (hj : L[j]? = some ⟨b2, cs2, T2⟩) (hij : i ≠ j) (h2 : cs2.length ≠ 0) :
    Qt P (St B H L) F (.call ⟨.value (.func f), #[x, y], ts⟩) ty (.bool false) := by
  intro ρ hρ w hS d pos after g
  have hne : b1 ≠ b2 := ne_of_getElem? hS.nodup hi hj hij
  have hrun := Lib.run_overlaps_apart (P := P) w tS tR E hu sz (fun w => run_sizeOf' ht) ⟨b1, o1, none⟩ ⟨b2, o2, none⟩ n1 c1 n2 c2 hne T1 T2 cs1.length cs2.length (shape_own hS hi) (shape_own hS hj) h2 (froz_own hS hi _) (froz_own hS hi _)
  have hnx' : Extern.findNext fn = none := by simpa using hnx
  have h3 : ¬ fn.name = "runtime.NumGoroutine" := by simpa using hname
  have hcf := run_callFunc_extern (P := P) hf hname (by rw [hbody]; rfl) hnx' hfind #[.slice (some ⟨b1, o1, none⟩) n1 c1, .slice (some ⟨b2, o2, none⟩) n2 c2] w
  rw [hrun] at hcf
  have he : ρ (.func f) = .func (.func f) #[] #[] := hρ _ _ rfl
  simp only [execOp, resolve, Sem.run_bind, Deferred.ofValue]
  simp [invoke, he, hρ x _ hx, hρ y _ hy, hcf, Result.andThen]
/-- The first of them is read only, and plain. -/
theorem q_overlapsH {f : FuncId} {fn : Func} {ts : Array TypeId} {j b1 b2 o1 o2 n1 c1 n2 c2 : Nat} {cs1 cs2 : List Value} {T1 T2 : TypeId} (hf : P.funcs[f]? = some fn) (hname : (fn.name == "runtime.NumGoroutine") = false) (hbody : fn.body = none) (hnx : (Extern.findNext fn).isNone = true)
    (hfind : Extern.find fn = some (Extern.SlicesOverlaps.overlaps #[tS, tS] #[tR])) (hu : P.underlying tS = some (.slice E)) (ht : tyS P E = some (agg, sz))
    (hx : oev F x = some (.slice (some ⟨b1, o1, none⟩) n1 c1)) (hy : oev F y = some (.slice (some ⟨b2, o2, none⟩) n2 c2)) (hH : H b1 = some (.cells cs1.toArray T1 (0, 0))) (hj : L[j]? = some ⟨b2, cs2, T2⟩) (h2 : cs2.length ≠ 0) :
    Qt P (St B H L) F (.call ⟨.value (.func f), #[x, y], ts⟩) ty (.bool false) := by
  intro ρ hρ w hS d pos after g
  have hne : b1 ≠ b2 := fun e => by
    have := (hS.mine _ (List.mem_of_getElem? hj)).2
    simp only [] at this
    rw [← e, hH] at this; cases this
  have ho := hS.froz _ _ hH
  have hsh : w.shape? b1 = some (T1, cs1.length) := by unfold World.shape?; simp [ho]
  have hfr : ∀ o, w.frozen? ⟨b1, o, none⟩ = false := fun o => by simp [World.frozen?, ho]
  have hrun := Lib.run_overlaps_apart (P := P) w tS tR E hu sz (fun w => run_sizeOf' ht) ⟨b1, o1, none⟩ ⟨b2, o2, none⟩ n1 c1 n2 c2 hne T1 T2 cs1.length cs2.length hsh (shape_own hS hj) h2 (hfr _) (hfr _)
  have hnx' : Extern.findNext fn = none := by simpa using hnx
  have hcf := run_callFunc_extern (P := P) hf hname (by rw [hbody]; rfl) hnx' hfind #[.slice (some ⟨b1, o1, none⟩) n1 c1, .slice (some ⟨b2, o2, none⟩) n2 c2] w
  rw [hrun] at hcf
  have he : ρ (.func f) = .func (.func f) #[] #[] := hρ _ _ rfl
  simp only [execOp, resolve, Sem.run_bind, Deferred.ofValue]
  simp [invoke, he, hρ x _ hx, hρ y _ hy, hcf, Result.andThen]
end
end Go.W
/-! A walk within a round of a range over a function: what holds of the plain frame's operations holds of a round's. -/
namespace Go.W
open Go Go.RowKit
abbrev Fw (ro : Option Nat) : Fence := { fn := fun _ => True, depth := none, alive := false, round := ro }
theorem calls_in {ro : Option Nat} {m : Nat} {P : Program} {f : FuncId} {args : Array Value} {w : World} {R : Ending → World → Prop} (h : Calls P f args w R) : CallsIn (Fw ro) m P f args w R :=
  (callsIn_wide (n := m)).2 h
theorem in_calls {ro : Option Nat} {m : Nat} {P : Program} {f : FuncId} {args : Array Value} {w : World} {R : Ending → World → Prop} (h : CallsIn (Fw ro) m P f args w R) : Calls P f args w R :=
  (callsIn_wide (n := m)).1 h
section
variable {ro : Option Nat} {P : Program} {ops : Array Oper} {Q : Exit → Act → World → Prop} {o : Oper} {a : Act} {w : World} {K : Act → World → Prop} {md : Region.Mode}
theorem upon_in {r : Result Next} (h : o.upon P a K Q r) : o.uponIn (Fw ro) 0 P a K Q r := by
  cases r with
  | ok x w' =>
    cases x with
    | value v => exact h
    | skip => exact h
    | defer d => exact h
    | enter f args => exact ⟨fun h => (by cases h), calls_in h⟩
    | row row args =>
      refine ⟨fun h => (by cases h), fun c cs _ => ?_⟩
      obtain ⟨v, w'', r, s⟩ := h c cs
      exact ⟨v, w'', r, stepsIn_wide.2 s⟩
    | _ => exact h.elim
  | halt c w' => cases c <;> first | exact h | exact h.elim
def isDefer : Op → Bool
  | .defer _ => true
  | _ => false
theorem wp_in (hd : isDefer o.op = false) (h : o.wp P a w K Q) : o.wpIn (Fw ro) 0 P a w K Q := by
  refine ⟨fun _ _ => trivial, ?_⟩
  rw [Oper.semAt_eq _ _ _ (fun c e => by rw [e] at hd; cases hd)]
  exact upon_in h
def noDefer (l : List Oper) : Bool := l.all fun o => !isDefer o.op
theorem wpList_in (hq : ¬ LetsOut Q) : ∀ {l : List Oper} (hd : noDefer l = true) (a : Act) (w : World), wpList P ops Q l a w → wpListIn (Fw ro) 0 P ops Q l a w
  | [], _, _, _, h => h
  | o :: t, hd, a, w, h => by
    simp only [noDefer, List.all_cons, Bool.and_eq_true, Bool.not_eq_true'] at hd
    unfold wpList at h
    unfold wpListIn
    split
    · rename_i hw
      rw [if_pos hw] at h
      exact wp_in hd.1 (Oper.wp_mono (wpList_in hq (by simpa [noDefer] using hd.2)) (h.resolve_right fun h => hq h.2))
    · rename_i hw
      rw [if_neg hw] at h
      exact ⟨fun _ _ => trivial, wpList_in hq (by simpa [noDefer] using hd.2) _ _ h⟩
theorem wpAny_in (hq : ¬ LetsOut Q) (hd : ∀ (i : Nat) (o : Oper), ops[i]? = some o → isDefer o.op = false) : ∀ (fuel : Nat) (listed : Array Bool) (a : Act) (w : World), wpAny P md ops Q fuel listed a w → wpAnyIn (Fw ro) 0 P md ops Q fuel listed a w
  | 0, _, _, _, h => h
  | fuel + 1, listed, a, w, h => by
    refine ⟨h.1, fun i hi => ?_⟩
    have h1 := h.2 i hi
    unfold wpOp at h1
    unfold wpOpIn
    split
    · rename_i ho; simp only [ho] at h1; exact wpAny_in hq hd fuel _ _ _ h1
    · rename_i o ho
      simp only [ho] at h1
      split
      · rename_i hw; rw [if_pos hw] at h1; exact wp_in (hd i o ho) (Oper.wp_mono (wpAny_in hq hd fuel _) (h1.resolve_right fun h => hq h.2))
      · rename_i hw; rw [if_neg hw] at h1; exact ⟨fun _ _ => trivial, wpAny_in hq hd fuel _ _ _ h1⟩
theorem noDefer_arr {l : List Oper} (hd : noDefer l = true) : ∀ (i : Nat) (o : Oper), l.toArray[i]? = some o → isDefer o.op = false := by
  intro i o h
  have := List.all_eq_true.1 hd o (List.mem_of_getElem? (by simpa using h))
  simpa using this
end
theorem nl_then {K : Act → World → Prop} {Q : Exit → Act → World → Prop} (h : ¬ LetsOut Q) : ¬ LetsOut (Exit.then K Q) := fun ⟨a, w, q⟩ => h ⟨a, w, q⟩
theorem nl_block {id : Nat} {Q : Exit → Act → World → Prop} (h : ¬ LetsOut Q) : ¬ LetsOut (Exit.inBlock id Q) := fun ⟨a, w, q⟩ => h ⟨a, w, q⟩
theorem nl_round {P : Program} {l : Nat} {R : Ending → World → Prop} : ¬ LetsOut (roundPost P l R) := fun ⟨_, _, q⟩ => q
theorem nl_false : ¬ LetsOut (fun _ _ _ => False) := fun ⟨_, _, q⟩ => q
/-! ### control in a round -/
section
variable {ro : Option Nat} {P : Program} {Q : Exit → Act → World → Prop} {n d : Nat} {a : Act} {F : Fr} {w : World} {B : Base} {H : Froz} {L : List Blk}
theorem k_seq {x y : Code} (h : ∀ K : Act → World → Prop, (∀ a w, y.wpIn (Fw ro) 0 P Q a w → K a w) → x.wpIn (Fw ro) 0 P (Exit.then K Q) a w) : (Code.seq x y).wpIn (Fw ro) 0 P Q a w := wpIn_seq_k h
theorem k_reg {id : Nat} {l : List Oper} (hq : ¬ LetsOut Q) (hd : noDefer l = true) (h : wpList P l.toArray Q l a w) : (Code.region id l.toArray false).wpIn (Fw ro) 0 P Q a w := wpIn_region_lit (wpList_in hq hd _ _ h)
theorem k_skip {K : Act → World → Prop} (h : K a w) : Code.skip.wpIn (Fw ro) 0 P (Exit.then K Q) a w := wpIn_skip h
theorem k_skipQ (h : Q .normal a w) : Code.skip.wpIn (Fw ro) 0 P Q a w := wpIn_skip h
theorem k_true {c : Operand} {x y : Code} (hF : Has n a F) (hc : oev F c = some (.bool true)) (h : x.wpIn (Fw ro) 0 P Q a w) : (Code.cond c x y).wpIn (Fw ro) 0 P Q a w := wpIn_cond_true (hF.eval hc) h
theorem k_false {c : Operand} {x y : Code} (hF : Has n a F) (hc : oev F c = some (.bool false)) (h : y.wpIn (Fw ro) 0 P Q a w) : (Code.cond c x y).wpIn (Fw ro) 0 P Q a w := wpIn_cond_false (hF.eval hc) h
theorem k_block {id : Nat} {c : Code} (h : c.wpIn (Fw ro) 0 P (Exit.inBlock id Q) a w) : (Code.block id c).wpIn (Fw ro) 0 P Q a w := wpIn_block h
theorem k_exit {id : Nat} (h : Q (.exit id) a w) : (Code.exit id).wpIn (Fw ro) 0 P Q a w := wpIn_exit h
theorem k_ret (h : Q .ret a w) : Code.ret.wpIn (Fw ro) 0 P Q a w := wpIn_ret h
theorem k_start {id : Nat} {l : List Oper} (f : List Blk → List Blk) (Ls : List Nat) (hm : P.follows .mixedOrders = true) (hq : ¬ LetsOut Q) (hd : noDefer l = true) (hS : St B H L w)
    (h : ∀ w, St B H L w → wpAnyL P .any l.toArray Q (St B H (f L)) Ls l.toArray.size (Array.replicate l.toArray.size false) a w) : (Code.region id l.toArray true).wpIn (Fw ro) 0 P Q a w :=
  wpIn_region_any hm (wpAny_in hq (noDefer_arr hd) _ _ _ _ (wpAny_of_L _ _ _ _ (h _ hS.drawn)))
end
end Go.W
/-! A range over a function: the statement, the iterator, the rounds. -/
namespace Go.W
open Go Go.RowKit
/-- The record as it lies while no round is under way. -/
abbrev yv (l : Nat) : Value := .func (.yield l) #[] #[]
section
variable {P : Program} {Γ : Type}
/-- What is owed at a round's end. -/
def RoundR (l : Nat) (r0 : Loop) (Lc : Γ → List Blk) (C : Nat → Γ → Froz → Prop) (X : Nat → Code → Γ → Froz → Prop) (k : Nat) (w : World) (H : Froz) (bs : List Nat) (e : Ending) (w' : World) : Prop :=
  (e = .returned (.bool true) ∧ ∃ γ' H', C (k + 1) γ' H' ∧ St ⟨w, H, bs⟩ H' (Lc γ') w' ∧ w'.heap[l]? = some (.loop r0)) ∨
  (e = .returned (.bool false) ∧ ∃ γ' H' c, X k c γ' H' ∧ H' l = none ∧ St ⟨w, H, l :: bs⟩ H' (Lc γ') w' ∧ w'.heap[l]? = some (.loop { r0 with state := .done, pending := some c }))
/-- What a round does, of the rounds' number k: it goes on, the caller's blocks turned; or it leaves the loop by a jump. -/
def RoundsOK (P : Program) (l : Nat) (r0 : Loop) (N : Nat) (enc : Nat → List Value) (Lc : Γ → List Blk) (C : Nat → Γ → Froz → Prop) (X : Nat → Code → Γ → Froz → Prop) (H0 : Froz) : Prop :=
  ∀ k, k < N → ∀ (γ : Γ) (H : Froz) (w : World), C k γ H → Le H0 H → Hand w H (Lc γ) → H l = none → w.heap[l]? = some (.loop r0) →
    YieldAt (Fw none) 0 P l (enc k).toArray w (RoundR l r0 Lc C X k w H ((Lc γ).map (·.b)))
/-- What an iterator does. -/
def IterR (l : Nat) (r0 : Loop) (N : Nat) (Lc : Γ → List Blk) (C : Nat → Γ → Froz → Prop) (X : Nat → Code → Γ → Froz → Prop) (H : Froz) (bs : List Nat) (w : World) (w' : World) : Prop :=
  (∃ γ' H', C N γ' H' ∧ St ⟨w, H, bs⟩ H' (Lc γ') w' ∧ w'.heap[l]? = some (.loop r0)) ∨
  (∃ k γ' H' c, k < N ∧ X k c γ' H' ∧ H' l = none ∧ St ⟨w, H, l :: bs⟩ H' (Lc γ') w' ∧ w'.heap[l]? = some (.loop { r0 with state := .done, pending := some c }))
end
section
variable {P : Program} {ops : Array Oper} {Q : Exit → Act → World → Prop} {rest : List Oper} {n d : Nat} {a : Act} {F : Fr} {w : World} {B : Base} {H : Froz} {L : List Blk}
  {op : Op} {ty : TypeId} {pos : String} {after : Array Edge} {v : Value} {g : Option (Nat × Bool)}
/-- A call of yield. -/
theorem y_call {K : Act → World → Prop} {l : Nat} {fx : Operand} {xs : List Operand} {vs : List Value} {ts : Array TypeId} {R : Ending → World → Prop} (hF : Has n a F) (hf : oev F fx = some (yv l)) (hxs : oevs F xs = some vs) (hd : Nat.blt d n = true)
    (hy : YieldAt (Fw none) 0 P l vs.toArray w R) (k : ∀ v w', R (.returned v) w' → ∀ a', Has n a' ((d, v) :: F) → K a' w') (hR : ∀ e w', R e w' → ∃ v, e = .returned v) :
    (⟨some d, .call ⟨.value fx, xs.toArray, ts⟩, ty, pos, after, g⟩ : Oper).wpIn (Fw none) 0 P a w K Q := by
  obtain ⟨fn, tmps, assign, body, hy1, hy2⟩ := hy
  refine ⟨fun _ _ => trivial, ?_⟩
  rw [Oper.semAt_none]
  have hargs : (xs.toArray.map a.eval) = vs.toArray := by rw [List.map_toArray, oevs_map hF hxs]
  have : (execOp a.eval (⟨some d, .call ⟨.value fx, xs.toArray, ts⟩, ty, pos, after, g⟩ : Oper)).run P w = .ok (.round l fn tmps assign body) w := by
    simp only [execOp, resolve, Sem.run_bind, hargs, hF.eval hf, Deferred.ofValue]
    simp [invoke, hy1]
  rw [this, Oper.uponIn_round]
  refine ⟨fun h => (by cases h), hy2.mono fun e w' he => ?_⟩
  obtain ⟨v, rfl⟩ := hR e w' he
  exact k v w' he _ (hF.put hd v)
/-- Lists of operations, one of which calls yield. -/
theorem y_reg {id : Nat} {l : List Oper} (h : wpListIn (Fw none) 0 P l.toArray Q l a w) : (Code.region id l.toArray false).wp P Q a w := (wpIn_wide (n := 0)).1 (wpIn_region_lit h)
theorem y_l {o : Oper} (hg : o.guard = none) (hd : isDefer o.op = false) (h : ∀ K : Act → World → Prop, (∀ a w, wpListIn (Fw none) 0 P ops Q rest a w → K a w) → o.wp P a w K Q) : wpListIn (Fw none) 0 P ops Q (o :: rest) a w :=
  wpListIn_plain hg fun K hK => wp_in hd (h K hK)
theorem y_y {o : Oper} (hg : o.guard = none) (h : ∀ K : Act → World → Prop, (∀ a w, wpListIn (Fw none) 0 P ops Q rest a w → K a w) → o.wpIn (Fw none) 0 P a w K Q) : wpListIn (Fw none) 0 P ops Q (o :: rest) a w :=
  wpListIn_plain hg h
theorem y_q {S : World → Prop} (hF : Has n a F) (hS : S w) (q : Qt P S F op ty v) (hd : Nat.blt d n = true) (hdf : isDefer op = false) (k : ∀ a', Has n a' ((d, v) :: F) → wpListIn (Fw none) 0 P ops Q rest a' w) :
    wpListIn (Fw none) 0 P ops Q (⟨some d, op, ty, pos, after, none⟩ :: rest) a w := by
  refine y_l rfl hdf fun K hK => ?_
  unfold Oper.wp
  rw [q a.eval (fun x u h => hF.eval h) w hS]
  exact hK _ _ (k _ (hF.put hd v))
theorem y_rest (hq : ¬ LetsOut Q) (hd : noDefer rest = true) (h : wpList P ops Q rest a w) : wpListIn (Fw none) 0 P ops Q rest a w := wpList_in hq hd _ _ h
theorem y_end {K : Act → World → Prop} (h : K a w) : wpListIn (Fw none) 0 P ops (Exit.then K Q) [] a w := h
end
section
variable {B : Base} {H H' : Froz} {Lx L L' : List Blk} {w w' : World}
/-- A round has left the loop: all that the iterator held is forgotten. -/
theorem St.leave {H0 : Froz} {M : List Nat} {w0 : World} {l : Nat} (h : St ⟨w0, H0, M⟩ H (Lx ++ L) w) (hc : St ⟨w, H, l :: Lx.map (·.b)⟩ H' L' w') : St ⟨w0, H0, l :: M⟩ H' L' w' where
  os := hc.os.trans h.os
  tape := hc.tape.trans h.tape
  output := hc.output.trans h.output
  size := Nat.le_trans h.size hc.size
  old k hk hm := by
    have hk' : k < w0.heap.size := hk
    simp only [List.mem_cons, not_or] at hm
    refine (hc.old k (Nat.lt_of_lt_of_le hk h.size) ?_).trans (h.old k hk hm.2)
    simp only [List.mem_cons, not_or]
    refine ⟨hm.1, fun hx => ?_⟩
    obtain ⟨x, hx2, rfl⟩ := List.mem_map.1 hx
    rcases (h.mine x (List.mem_append_left _ hx2)).1 with h1 | h1
    · exact absurd hk' (Nat.not_lt.2 h1)
    · exact hm.2 h1
  froz := hc.froz
  sub k o hk := hc.sub k o (h.sub k o hk)
  fresh k o hk := by
    rcases hc.fresh k o hk with h1 | h1 | h1
    · rcases h.fresh k o h1 with h2 | h2 | h2
      · exact .inl h2
      · exact .inr (.inl h2)
      · exact .inr (.inr (List.mem_cons_of_mem _ h2))
    · exact .inr (.inl (Nat.le_trans h.size h1))
    · rcases List.mem_cons.1 h1 with h2 | h2
      · exact .inr (.inr (h2 ▸ List.mem_cons_self))
      · obtain ⟨x, hx2, rfl⟩ := List.mem_map.1 h2
        rcases (h.mine x (List.mem_append_left _ hx2)).1 with h3 | h3
        · exact .inr (.inl h3)
        · exact .inr (.inr (List.mem_cons_of_mem _ h3))
  own := hc.own
  mine x hx := by
    have hm := hc.mine x hx
    refine ⟨?_, hm.2⟩
    rcases hm.1 with h1 | h1
    · exact .inl (Nat.le_trans h.size h1)
    · rcases List.mem_cons.1 h1 with h2 | h2
      · exact .inr (h2 ▸ List.mem_cons_self)
      · obtain ⟨y, hy, e⟩ := List.mem_map.1 h2
        rcases (h.mine y (List.mem_append_left _ hy)).1 with h3 | h3
        · exact .inl (e ▸ h3)
        · exact .inr (e ▸ List.mem_cons_of_mem _ h3)
  nodup := hc.nodup

theorem heap_putObj_other {w : World} {l k : Nat} {o : Obj} (h : k ≠ l) : (w.putObj l o).heap[k]? = w.heap[k]? := World.putObj_heap_other h
/-- A block that nobody speaks of turns. -/
theorem St.putObj {l : Nat} {o : Obj} (h : St B H L w) (h1 : B.w0.heap.size ≤ l) (h2 : H l = none) (h3 : ∀ cs T, w.heap[l]? ≠ some (.cells cs T (0, 0))) : St B H L (w.putObj l o) where
  os := h.os
  tape := h.tape
  output := h.output
  size := by rw [World.putObj_size]; exact h.size
  old k hk hm := (heap_putObj_other (by omega)).trans (h.old k hk hm)
  froz k o hk := (heap_putObj_other (fun e => by rw [e, h2] at hk; cases hk)).trans (h.froz k o hk)
  sub := h.sub
  fresh := h.fresh
  own x hx := (heap_putObj_other (fun e => h3 _ _ (e ▸ h.own x hx))).trans (h.own x hx)
  mine := h.mine
  nodup := h.nodup
/-- The block for the rounds' deferred calls, empty. -/
structure DefB (B : Base) (H : Froz) (D : Nat) (w : World) : Prop where
  at_ : w.heap[D]? = some (.deferred (some []))
  ge : B.w0.heap.size ≤ D
  no : H D = none
theorem St.allocObj (h : St B H L w) (o : Obj) : St B H L (w.alloc o) where
  os := h.os
  tape := h.tape
  output := h.output
  size := by rw [World.size_alloc]; have := h.size; omega
  old k hk hm := (_root_.Go.heap_alloc_old w _ (by have := h.size; omega)).trans (h.old k hk hm)
  froz k o hk := (_root_.Go.heap_alloc_old w _ (h.hlt hk)).trans (h.froz k o hk)
  sub := h.sub
  fresh := h.fresh
  own x hx := (_root_.Go.heap_alloc_old w _ (lt_of_some (h.own x hx))).trans (h.own x hx)
  mine := h.mine
  nodup := h.nodup
/-- Some blocks of M0 that no one owns and that lie beyond the base are struck. -/
theorem St.strike {M : List Nat} {w0 : World} {H0 : Froz} {l : Nat} (h : St ⟨w0, H0, l :: M⟩ H L w) (h0 : w0.heap.size ≤ l) : St ⟨w0, H0, M⟩ H L w where
  os := h.os
  tape := h.tape
  output := h.output
  size := h.size
  old k hk hm := h.old k hk (by have hk' : k < w0.heap.size := hk; simp only [List.mem_cons, not_or]; exact ⟨by omega, hm⟩)
  froz := h.froz
  sub := h.sub
  fresh k o hk := by
    rcases h.fresh k o hk with h1 | h1 | h1
    · exact .inl h1
    · exact .inr (.inl h1)
    · rcases List.mem_cons.1 h1 with h2 | h2
      · exact .inr (.inl (h2 ▸ h0))
      · exact .inr (.inr h2)
  own := h.own
  mine x hx := by
    refine ⟨?_, (h.mine x hx).2⟩
    rcases (h.mine x hx).1 with h1 | h1
    · exact .inl h1
    · rcases List.mem_cons.1 h1 with h2 | h2
      · exact .inl (h2 ▸ h0)
      · exact .inr h2
  nodup := h.nodup
end
/-- An act with deferred calls besides. -/
def wM (ms : List Deferred) (a : Act) : Act := { a with defers := a.defers ++ ms }
abbrev markD (D : Nat) : List Deferred := [{ target := .collected D, args := #[] }]
theorem St.callGl {B : Base} {H : Froz} {Lx L : List Blk} {w : World} {l : Nat} (h : St B H (Lx ++ L) w) (hl0 : B.w0.heap.size ≤ l) (hlc : ∀ x ∈ L, x.b ≠ l) {H' : Froz} {L' : List Blk} {w' : World} (hc : St ⟨w, H, l :: Lx.map (·.b)⟩ H' L' w') (hll : l < w.heap.size) : St B H' (L' ++ L) w' where
  os := hc.os.trans h.os
  tape := hc.tape.trans h.tape
  output := hc.output.trans h.output
  size := Nat.le_trans h.size hc.size
  old k hk hm := by
    refine (hc.old k (Nat.lt_of_lt_of_le hk h.size) ?_).trans (h.old k hk hm)
    intro hk2
    rcases List.mem_cons.1 hk2 with hk2 | hk2
    · omega
    obtain ⟨x, hx, rfl⟩ := List.mem_map.1 hk2
    rcases (h.mine x (List.mem_append_left _ hx)).1 with h1 | h1
    · omega
    · exact hm h1
  froz := hc.froz
  sub k o hk := hc.sub k o (h.sub k o hk)
  fresh k o hk := by
    rcases hc.fresh k o hk with h1 | h1 | h1
    · exact h.fresh k o h1
    · exact .inr (.inl (Nat.le_trans h.size h1))
    · rcases List.mem_cons.1 h1 with h1 | h1
      · exact .inr (.inl (h1 ▸ hl0))
      obtain ⟨x, hx, rfl⟩ := List.mem_map.1 h1
      rcases (h.mine x (List.mem_append_left _ hx)).1 with h2 | h2
      · exact .inr (.inl h2)
      · exact .inr (.inr h2)
  own x hx := by
    rcases List.mem_append.1 hx with hx | hx
    · exact hc.own x hx
    · have hm := h.own x (List.mem_append_right _ hx)
      refine (hc.old x.b (lt_of_some hm) ?_).trans hm
      intro hk2
      rcases List.mem_cons.1 hk2 with hk2 | hk2
      · exact hlc x hx hk2
      obtain ⟨y, hy, hyb⟩ := List.mem_map.1 hk2
      exact (List.pairwise_append.1 h.nodup).2.2 y hy x hx hyb
  mine x hx := by
    rcases List.mem_append.1 hx with hx | hx
    · have := hc.mine x hx
      refine ⟨?_, this.2⟩
      rcases this.1 with h1 | h1
      · exact .inl (Nat.le_trans h.size h1)
      · rcases List.mem_cons.1 h1 with h1 | h1
        · exact .inl (h1 ▸ hl0)
        obtain ⟨y, hy, hyb⟩ := List.mem_map.1 h1
        rw [← hyb]
        exact (h.mine y (List.mem_append_left _ hy)).1
    · have hm := h.mine x (List.mem_append_right _ hx)
      refine ⟨hm.1, ?_⟩
      cases hh : H' x.b with
      | none => rfl
      | some o =>
        rcases hc.fresh _ o hh with h1 | h1 | h1
        · simp only [] at h1; rw [hm.2] at h1; cases h1
        · exact absurd (lt_of_some (h.own x (List.mem_append_right _ hx))) (Nat.not_lt.2 h1)
        · rcases List.mem_cons.1 h1 with h1 | h1
          · exact absurd h1 (hlc x hx)
          obtain ⟨y, hy, hyb⟩ := List.mem_map.1 h1
          exact absurd hyb ((List.pairwise_append.1 h.nodup).2.2 y hy x hx)
  nodup := by
    refine List.pairwise_append.2 ⟨hc.nodup, (List.pairwise_append.1 h.nodup).2.1, fun x hx y hy => ?_⟩
    have h1 := lt_of_some (h.own y (List.mem_append_right _ hy))
    rcases (hc.mine x hx).1 with h2 | h2
    · simp only [] at h2; omega
    · rcases List.mem_cons.1 h2 with h2 | h2
      · rw [h2]; exact fun e => hlc y hy e.symm
      obtain ⟨z, hz, hzb⟩ := List.mem_map.1 h2
      intro e
      exact (List.pairwise_append.1 h.nodup).2.2 z hz y hy (hzb.trans e)
theorem c_rangeF {P : Program} {Γ : Type} {Q : Exit → Act → World → Prop} {n : Nat} {a : Act} {F : Fr} {w : World} {B : Base} {H : Froz} {Lr : List Blk} {g : Operand} {ps : Array Tmp} {assign body : Code} {f : FuncId} {fs us : List Value}
    {N : Nat} {Lc : Γ → List Blk} {C : Nat → Γ → Froz → Prop} {X : Nat → Code → Γ → Froz → Prop} {γ0 : Γ} (enc : Nat → List Value)
    (he : enS P f = true) (hF : Has n a F) (hS : St B H (Lc γ0 ++ Lr) w) (hg : oev F g = some (.func (.func f) fs.toArray us.toArray)) (hC : C 0 γ0 H)
    (hit : ∀ (l : Nat) (r0 : Loop) (w : World), r0.state = .ready → Hand w H (Lc γ0) → H l = none → w.heap[l]? = some (.loop r0) → RoundsOK P l r0 N enc Lc C X H → CallsR P f (fs ++ [yv l] ++ us) w fun _ w' => IterR l r0 N Lc C X H ((Lc γ0).map (·.b)) w w')
    (hround : ∀ (l : Nat) (r0 : Loop), r0.state = .ready → r0.pending = none → r0.params = ps → r0.assign = assign → r0.body = body → r0.tmps = a.tmps → RoundsOK P l r0 N enc Lc C X H)
    (kdone : ∀ γ' H' w' D, C N γ' H' → Le H H' → St B H' (Lc γ' ++ Lr) w' → DefB B H' D w' → Q .normal (wM (markD D) a) w')
    (kleave : ∀ k γ' H' w' D c, k < N → X k c γ' H' → Le H H' → St B H' (Lc γ' ++ Lr) w' → DefB B H' D w' → c.wp P Q (wM (markD D) a) w') :
    (Code.rangeFunc g ps assign body).wp P Q a w := by
  refine (wpIn_wide (n := 0)).1 (wpIn_rangeFunc (F := Fence.wide) fun fn _ => ?_)
  obtain ⟨r0, hr0⟩ : ∃ r0 : Loop, r0 = { state := .ready, pending := none, fn, tmps := a.tmps, params := ps, assign, body, defers := w.heap.size } := ⟨_, rfl⟩
  have hw2 : ∃ w2, w2 = (w.alloc (.deferred (some []))).alloc (.loop r0) := ⟨_, rfl⟩
  obtain ⟨w2, hw2⟩ := hw2
  have hS2 : St B H (Lc γ0 ++ Lr) w2 := hw2 ▸ (hS.allocObj _).allocObj _
  have hl2 : w2.heap[w.heap.size + 1]? = some (.loop r0) := by rw [hw2]; have := _root_.Go.heap_alloc_new (w.alloc (.deferred (some []))) (.loop r0); rwa [World.size_alloc] at this
  have hD2 : w2.heap[w.heap.size]? = some (.deferred (some [])) := by rw [hw2, _root_.Go.heap_alloc_old _ _ (by rw [World.size_alloc]; omega)]; exact _root_.Go.heap_alloc_new w _
  have hsz : w2.heap.size = w.heap.size + 2 := by rw [hw2, World.size_alloc, World.size_alloc]
  have hHl : ∀ k, w.heap.size ≤ k → H k = none := fun k hk => by
    cases hh : H k with
    | none => rfl
    | some o => exact absurd (hS.hlt hh) (by omega)
  have hbs : ∀ k, w.heap.size ≤ k → k ∉ (Lc γ0).map (·.b) := fun k hk hm => by
    obtain ⟨x, hx, rfl⟩ := List.mem_map.1 hm
    have := lt_of_some (hS.own x (List.mem_append_left _ hx))
    omega
  have h0 : B.w0.heap.size ≤ w.heap.size := hS.size
  have hact : wM (markD w.heap.size) a = { tmps := a.tmps, defers := markD w.heap.size ++ a.defers } := by simp [wM, hF.dfr]
  refine ⟨w.heap.size + 1, markD w.heap.size, w2, { target := .fn (.func f) us.toArray, args := fs.toArray ++ #[yv (w.heap.size + 1)] }, w2, f, (fs ++ [yv (w.heap.size + 1)] ++ us).toArray, w2, ?_, ?_, fun _ _ => trivial, ?_, fun h => (by cases h), ?_⟩
  · rw [hw2, hr0]; exact run_enterLoop_outer fn a.tmps ps assign body
  · simp only [resolve, rangeCall, hF.eval hg, Deferred.ofValue]
    simp [Act.eval]
  · simp [invoke, run_callFunc' he]
  · refine calls_in (ro := none) (Calls.mono (hit (w.heap.size + 1) r0 w2 (by rw [hr0]) hS2.hand (hHl _ (by omega)) hl2 (hround _ _ (by rw [hr0]) (by rw [hr0]) (by rw [hr0]) (by rw [hr0]) (by rw [hr0]) (by rw [hr0]))) ?_)
    rintro e w3 ⟨v, rfl, hI⟩
    have hrec : ∀ (H' : Froz) (L' : List Blk) (w3 : World) (r : Loop), H' (w.heap.size + 1) = none → St ⟨w2, H, (Lc γ0).map (·.b)⟩ H' L' w3 → w3.heap[w.heap.size + 1]? = some (.loop r) → (w3.heap[w.heap.size]? = some (.deferred (some [])) ∧ H' w.heap.size = none) →
        St B H' (L' ++ Lr) (w3.putObj (w.heap.size + 1) (.loop { r with state := .exhausted })) ∧ DefB B H' w.heap.size (w3.putObj (w.heap.size + 1) (.loop { r with state := .exhausted })) := by
      intro H' L' w3 r h1 h2 h3 h4
      refine ⟨(hS2.callG h2).putObj (by omega) h1 (fun cs T => by rw [h3]; intro e; cases e), ?_, h0, h4.2⟩
      rw [heap_putObj_other (by omega)]; exact h4.1
    have hHn : ∀ (H' : Froz) (L' : List Blk) (w3 : World) (M : List Nat) (k : Nat), w.heap.size ≤ k → k < w2.heap.size → k ∉ M → St ⟨w2, H, M⟩ H' L' w3 → H' k = none := by
      intro H' L' w3 M k hk hk2 hkM h
      cases hh : H' k with
      | none => rfl
      | some o =>
        rcases h.fresh k o hh with h1 | h1 | h1
        · have h1' : H k = some o := h1
          rw [hHl k hk] at h1'; cases h1'
        · have h1' : w2.heap.size ≤ k := h1
          omega
        · exact absurd h1 hkM
    rcases hI with ⟨γ', H', hC', hS3, hl3⟩ | ⟨k, γ', H', c, hk, hX, hHl3, hS3, hl3⟩
    · have hn1 := hHn H' _ w3 _ (w.heap.size + 1) (by omega) (by omega) (hbs _ (by omega)) hS3
      have hn0 := hHn H' _ w3 _ w.heap.size (by omega) (by omega) (hbs _ (by omega)) hS3
      have hD3 : w3.heap[w.heap.size]? = some (.deferred (some [])) := (hS3.old _ (show w.heap.size < w2.heap.size by omega) (hbs _ (by omega))).trans hD2
      obtain ⟨h1, h2⟩ := hrec H' _ w3 r0 hn1 hS3 hl3 ⟨hD3, hn0⟩
      refine ⟨none, _, ?_, hact ▸ kdone γ' H' _ _ hC' hS3.le h1 h2⟩
      rw [run_endLoop hl3 (by rw [hr0]; simp), hr0]
    · have hn0 := hHn H' _ w3 _ w.heap.size (by omega) (by omega) (by simp only [List.mem_cons, not_or]; exact ⟨by omega, hbs _ (by omega)⟩) hS3
      have hD3 : w3.heap[w.heap.size]? = some (.deferred (some [])) := (hS3.old _ (show w.heap.size < w2.heap.size by omega) (by simp only [List.mem_cons, not_or]; exact ⟨by omega, hbs _ (by omega)⟩)).trans hD2
      have hSb := hS2.callGl (l := w.heap.size + 1) (by omega) (fun x hx e => by have := lt_of_some (hS.own x (List.mem_append_right _ hx)); omega) hS3 (by omega)
      refine ⟨some c, _, ?_, hact ▸ (wpIn_wide (n := 0)).2 (kleave k γ' H' (w3.putObj (w.heap.size + 1) (.loop { r0 with state := .exhausted, pending := some c })) w.heap.size c hk hX hS3.le (hSb.putObj (by omega) hHl3 (fun cs T => by rw [hl3]; intro e; cases e)) ⟨by rw [heap_putObj_other (by omega)]; exact hD3, h0, hn0⟩)⟩
      rw [run_endLoop hl3 (by simp)]
/-! ### a round -/
abbrev bz (l : Nat) (r0 : Loop) (w : World) : World := w.putObj l (.loop { r0 with state := .busy })
section
variable {B : Base} {H H' H0 : Froz} {Lx L L' : List Blk} {w w0 w' : World} {l : Nat} {M : List Nat} {o : Obj}
/-- A block of the base that no one owns turns, in the base too. -/
theorem St.rebase (h : St ⟨w0, H0, M⟩ H L w) (hl : l < w0.heap.size) (h1 : H l = none) (h2 : ∀ x ∈ L, x.b ≠ l) : St ⟨w0.putObj l o, H0, M⟩ H L (w.putObj l o) where
  os := h.os
  tape := h.tape
  output := h.output
  size := by simp only [World.putObj_size]; exact h.size
  old k hk hm := by
    have hs : w0.heap.size ≤ w.heap.size := h.size
    simp only [World.putObj_size] at hk
    by_cases e : k = l
    · subst e
      rw [World.putObj_heap_same (by omega)]
      exact (World.putObj_heap_same hl).symm
    · rw [heap_putObj_other e]
      exact (h.old k hk hm).trans (heap_putObj_other e).symm
  froz k o hk := (heap_putObj_other (fun e => by rw [e, h1] at hk; cases hk)).trans (h.froz k o hk)
  sub := h.sub
  fresh k o hk := by simp only [World.putObj_size]; exact h.fresh k o hk
  own x hx := (heap_putObj_other (h2 x hx)).trans (h.own x hx)
  mine x hx := by simp only [World.putObj_size]; exact h.mine x hx
  nodup := h.nodup
theorem St.base_mark (h : St ⟨w0.putObj l o, H0, M⟩ H L w) : St ⟨w0, H0, l :: M⟩ H L w where
  os := h.os
  tape := h.tape
  output := h.output
  size := by have := h.size; simp only [World.putObj_size] at this; exact this
  old k hk hm := by
    simp only [List.mem_cons, not_or] at hm
    exact (h.old k (by simp only [World.putObj_size]; exact hk) hm.2).trans (heap_putObj_other hm.1)
  froz := h.froz
  sub := h.sub
  fresh k o hk := by
    rcases h.fresh k o hk with h1 | h1 | h1
    · exact .inl h1
    · simp only [World.putObj_size] at h1; exact .inr (.inl h1)
    · exact .inr (.inr (List.mem_cons_of_mem _ h1))
  own := h.own
  mine x hx := by
    refine ⟨?_, (h.mine x hx).2⟩
    rcases (h.mine x hx).1 with h1 | h1
    · simp only [World.putObj_size] at h1; exact .inl h1
    · exact .inr (List.mem_cons_of_mem _ h1)
  nodup := h.nodup
theorem putObj_putObj (w : World) (l : Nat) (o o' : Obj) : (w.putObj l o).putObj l o' = w.putObj l o' := by
  simp [World.putObj]
theorem putObj_same (h : w.heap[l]? = some o) : w.putObj l o = w := by
  obtain ⟨hl, he⟩ := Array.getElem?_eq_some_iff.1 h
  have : w.heap.setIfInBounds l o = w.heap := by
    apply Array.ext
    · simp
    · intro i h1 h2
      rw [Array.getElem_setIfInBounds (by simpa using h1)]
      split
      · rename_i e; subst e; exact he.symm
      · rfl
  simp [World.putObj, this]
theorem St.loop_no (h : St ⟨w0, H0, M⟩ H L w) {r : Loop} (hl : w0.heap[l]? = some (.loop r)) (h0 : H0 l = none) (hM : l ∉ M) : H l = none := by
  cases hh : H l with
  | none => rfl
  | some o =>
    rcases h.fresh l o hh with h1 | h1 | h1
    · have h1' : H0 l = some o := h1
      rw [h0] at h1'; cases h1'
    · have h1' : w0.heap.size ≤ l := h1
      have := lt_of_some hl
      omega
    · exact absurd h1 hM
theorem St.loop_at (h : St ⟨w0, H0, M⟩ H L w) {r : Loop} (hl : w0.heap[l]? = some (.loop r)) (hM : l ∉ M) : w.heap[l]? = some (.loop r) := (h.old l (lt_of_some hl) hM).trans hl
theorem St.loop_ne (h : St B H L w) {r : Loop} (hl : w.heap[l]? = some (.loop r)) : ∀ x ∈ L, x.b ≠ l := fun x hx e => by
  have := h.own x hx
  rw [e, hl] at this
  cases this
theorem Hand.loop_not (h : Hand w H Lx) {r : Loop} (hl : w.heap[l]? = some (.loop r)) : l ∉ Lx.map (·.b) := fun hm => by
  obtain ⟨x, hx, e⟩ := List.mem_map.1 hm
  have := h.own x hx
  rw [e, hl] at this
  cases this
end
section
variable {P : Program} {Γ : Type} {l : Nat} {r0 : Loop} {Lc : Γ → List Blk} {C : Nat → Γ → Froz → Prop} {X : Nat → Code → Γ → Froz → Prop} {k : Nat}
theorem round_norm {a : Act} {w w' : World} {H H' : Froz} {bs : List Nat} {γ' : Γ} (hs : r0.state = .ready) (hp : r0.pending = none) (hw : w.heap[l]? = some (.loop r0)) (h0 : H l = none) (hM : l ∉ bs) (hS : St ⟨bz l r0 w, H, bs⟩ H' (Lc γ') w') (hC : C (k + 1) γ' H') :
    roundPost P l (RoundR l r0 Lc C X k w H bs) .normal a w' := by
  have hlt := lt_of_some hw
  have hl : w'.heap[l]? = some (.loop { r0 with state := .busy }) := hS.loop_at (World.putObj_heap_same hlt) hM
  have hn := hS.loop_no (World.putObj_heap_same hlt) h0 hM
  refine ⟨_, _, run_endRound none hl, .inl ⟨rfl, γ', H', hC, ?_, ?_⟩⟩
  · have h1 := hS.rebase (o := .loop r0) (by rw [World.putObj_size]; exact hlt) hn (hS.loop_ne hl)
    rw [bz, putObj_putObj, putObj_same hw] at h1
    have e : ({ r0 with state := if (none : Option Code).isNone then .ready else .done, pending := none } : Loop) = r0 := by
      cases r0; simp only at hs hp; subst hs; subst hp; rfl
    rw [e]; exact h1
  · have e : ({ r0 with state := if (none : Option Code).isNone then .ready else .done, pending := none } : Loop) = r0 := by
      cases r0; simp only at hs hp; subst hs; subst hp; rfl
    rw [e]; exact World.putObj_heap_same (lt_of_some hl)
theorem round_jump {w w' : World} {H H' : Froz} {bs : List Nat} {γ' : Γ} (c : Code) (hw : w.heap[l]? = some (.loop r0)) (h0 : H l = none) (hM : l ∉ bs) (hS : St ⟨bz l r0 w, H, bs⟩ H' (Lc γ') w') (hX : X k c γ' H') :
    ∃ v w'', (Instr.endRound l (some c)).run P w' = .ok v w'' ∧ RoundR l r0 Lc C X k w H bs (.returned v) w'' := by
  have hlt := lt_of_some hw
  have hl : w'.heap[l]? = some (.loop { r0 with state := .busy }) := hS.loop_at (World.putObj_heap_same hlt) hM
  have hn := hS.loop_no (World.putObj_heap_same hlt) h0 hM
  refine ⟨_, _, run_endRound (some c) hl, .inr ⟨rfl, γ', H', c, hX, hn, ?_, World.putObj_heap_same (lt_of_some hl)⟩⟩
  have h1 := hS.rebase (o := .loop { r0 with state := .done, pending := some c }) (by rw [World.putObj_size]; exact hlt) hn (hS.loop_ne hl)
  rw [bz, putObj_putObj] at h1
  exact h1.base_mark
theorem round_ret {a : Act} {w w' : World} {H H' : Froz} {bs : List Nat} {γ' : Γ} (hw : w.heap[l]? = some (.loop r0)) (h0 : H l = none) (hM : l ∉ bs) (hS : St ⟨bz l r0 w, H, bs⟩ H' (Lc γ') w') (hX : X k .ret γ' H') :
    roundPost P l (RoundR l r0 Lc C X k w H bs) .ret a w' := round_jump .ret hw h0 hM hS hX
theorem round_exit {id : Nat} {a : Act} {w w' : World} {H H' : Froz} {bs : List Nat} {γ' : Γ} (hw : w.heap[l]? = some (.loop r0)) (h0 : H l = none) (hM : l ∉ bs) (hS : St ⟨bz l r0 w, H, bs⟩ H' (Lc γ') w') (hX : X k (.exit id) γ' H') :
    roundPost P l (RoundR l r0 Lc C X k w H bs) (.exit id) a w' := round_jump (.exit id) hw h0 hM hS hX
def parFr : List Nat → List Value → Fr → Fr
  | p :: ps, v :: vs, F => parFr ps vs ((p, v) :: F)
  | _, _, F => F
theorem Has.par {n : Nat} : ∀ {ps : List Nat} {vs : List Value} {a : Act} {F : Fr}, Has n a F → (ps.all fun p => Nat.blt p n) = true → Has n { a with tmps := (ps.zip vs).foldl (fun tmps (t, a) => tmps.setIfInBounds t a) a.tmps } (parFr ps vs F)
  | [], _, a, F, h, _ => by simpa [parFr] using h
  | p :: ps, [], a, F, h, _ => by simpa [parFr] using h
  | p :: ps, v :: vs, a, F, h, hp => by
    simp only [List.all_cons, Bool.and_eq_true] at hp
    have h1 := (h.put hp.1 v).par (ps := ps) (vs := vs) hp.2
    simpa [parFr, Act.put] using h1
/-- A round, out of the walks of the assignments and of the body. -/
theorem y_round {n : Nat} {a : Act} {F : Fr} {ps : List Nat} {assign body : Code} {vs : List Value} {w : World} {H : Froz} {L : List Blk} (hF : Has n a F) (hs : r0.state = .ready) (h1 : r0.params = ps.toArray) (h2 : r0.assign = assign) (h3 : r0.body = body) (h4 : r0.tmps = a.tmps)
    (hpl : ps.length = vs.length) (hpn : (ps.all fun p => Nat.blt p n) = true) (hH : Hand w H L) (h0 : H l = none) (hw : w.heap[l]? = some (.loop r0)) {R : Ending → World → Prop}
    (h : ∀ a1 (K : Act → World → Prop), Has n a1 (parFr ps vs F) → St ⟨w, H, L.map (·.b)⟩ H L w →
      (∀ a2 F2 H2 L2 w2, Has n a2 F2 → St ⟨w, H, L.map (·.b)⟩ H2 L2 w2 → (∀ w3, St ⟨bz l r0 w, H, L.map (·.b)⟩ H2 L2 w3 → body.wpIn (Fw (some l)) 0 P (roundPost P l R) a2 w3) → K a2 w2) →
      assign.wpIn (Fw (some l)) 0 P (Exit.then K fun _ _ _ => False) a1 w) : YieldAt (Fw none) 0 P l vs.toArray w R := by
  refine ⟨r0.fn, _, r0.assign, r0.body, run_yield hw (by simp [h1, hpl]), ?_⟩
  refine roundIn_of_wpIn (F := Fw none) trivial ?_
  rw [h1, h2, h3, h4]
  have hpar := hF.par (vs := vs) hpn
  refine h _ _ (by
    have e : a.defers = [] := hF.dfr
    have : ({ a with tmps := (ps.zip vs).foldl (fun tmps (t, a) => tmps.setIfInBounds t a) a.tmps } : Act) = { tmps := (ps.toArray.zip vs.toArray).foldl (fun tmps (t, a) => tmps.setIfInBounds t a) a.tmps, defers := [] } := by
      rw [← e]; simp
    exact this ▸ hpar) (St.startG hH) fun a2 F2 H2 L2 w2 hF2 hS2 hb => ?_
  have hM := hH.loop_not hw
  have hl2 := hS2.loop_at hw hM
  exact ⟨_, run_beginRound hl2 hs, hb _ (hS2.rebase (lt_of_some hw) (hS2.loop_no hw h0 hM) (hS2.loop_ne hl2))⟩
end
end Go.W
/-! Behind a range over a function: a mark stands among the deferred calls. -/
namespace Go.W
open Go Go.RowKit
section
variable {P : Program} {fn : Func} {n N : Nat} {a : Act} {F : Fr} {w : World} {B : Base} {H : Froz} {L : List Blk} {D : Nat}
theorem callsM_start {f : FuncId} {c : Code} {args : List Value} {R : Value → World → Prop} (hf : P.funcs[f]? = some fn) (hb : fn.body = some c) (hn : fn.ntmps = N) (hle : Nat.ble args.length N = true)
    (h : ∀ a, Has N a (initFr 0 args) → c.wp P (bodyPostM (Fw none) 0 P fn fun e w' => ∃ v, e = .returned v ∧ R v w') a w) : CallsR P f args w R := by
  refine in_calls (ro := none) (m := 0) (callsIn_of_wp_marks hf hb trivial ((wpIn_wide (n := 0)).2 (h _ ?_)))
  have hle' : args.length ≤ N := Nat.le_of_ble_eq_true hle
  have key : ∀ (l : List Value) (k s : Nat) (v : Value), fget (initFr k l) s = some v → k ≤ s ∧ l[s - k]? = some v := by
    intro l
    induction l with
    | nil => intro k s v h; simp [initFr, fget] at h
    | cons x t ih =>
      intro k s v h
      simp only [initFr, fget] at h
      by_cases e : k = s
      · subst e
        simp only [nbeq_self, cond_true, Option.some.injEq] at h
        subst h
        simp
      · rw [nbeq_ne e] at h
        simp only [cond_false] at h
        obtain ⟨h1, h2⟩ := ih _ _ _ h
        refine ⟨by omega, ?_⟩
        have : s - k = (s - (k + 1)) + 1 := by omega
        rw [this]
        simpa using h2
  refine ⟨by simp [hn]; omega, rfl, fun s v hs => ?_⟩
  obtain ⟨_, h2⟩ := key _ _ _ _ hs
  simp only [Nat.sub_zero] at h2
  have hlt := (List.getElem?_eq_some_iff.1 h2).1
  rw [Array.getElem?_append_left (by simpa using hlt)]
  simpa using h2
theorem ResV.results {rs : List ResultVar} {vs : List Value} (hrs : fn.results.toList = rs) (h : ResV P F L rs vs) (hF : Has n a F) (hS : St B H L w) : (results fn a.tmps).run P w = .ok (oneOf vs) w := by
  have hb := c_ret' (P := P) (fn := fn) (R := fun e w' => e = .returned (oneOf vs) ∧ w' = w) hrs hF hS h ⟨rfl, rfl⟩
  obtain ⟨_, v, h1, h2, _⟩ := hb
  cases h2
  exact h1
theorem m_out {R : Ending → World → Prop} {rs : List ResultVar} {vs : List Value} (hrs : fn.results.toList = rs) (hF : Has n a F) (hS : St B H L w) (hD : DefB B H D w) (hr : ResV P F L rs vs) (hR : ∀ w', St B H L w' → R (.returned (oneOf vs)) w') :
    LeavesInM (Fw none) 0 P fn (wM (markD D) a).tmps R (wM (markD D) a).defers .returning w := by
  have e : (wM (markD D) a).defers = markD D := by simp [wM, hF.dfr]
  rw [e]
  refine ⟨by simp, .inl ⟨D, _, rfl, run_takeDeferred hD.at_, ?_⟩⟩
  have hS' : St B H L (w.putObj D (.deferred none)) := hS.putObj hD.ge hD.no (fun cs T => by rw [hD.at_]; intro e; cases e)
  have h9 := hr.results hrs hF hS'
  exact ⟨_, h9, hR _ hS'⟩
theorem m_ret {R : Ending → World → Prop} {rs : List ResultVar} {vs : List Value} (hrs : fn.results.toList = rs) (hF : Has n a F) (hS : St B H L w) (hD : DefB B H D w) (hr : ResV P F L rs vs) (hR : ∀ w', St B H L w' → R (.returned (oneOf vs)) w') :
    bodyPostM (Fw none) 0 P fn R .ret (wM (markD D) a) w := m_out hrs hF hS hD hr hR
theorem m_norm {R : Ending → World → Prop} {rs : List ResultVar} {vs : List Value} (hrs : fn.results.toList = rs) (hF : Has n a F) (hS : St B H L w) (hD : DefB B H D w) (hr : ResV P F L rs vs) (hR : ∀ w', St B H L w' → R (.returned (oneOf vs)) w') :
    bodyPostM (Fw none) 0 P fn R .normal (wM (markD D) a) w := m_out hrs hF hS hD hr hR
end
theorem wM_put (ms : List Deferred) (a : Act) (d : Option Tmp) (v : Value) : (wM ms a).put d v = wM ms (a.put d v) := by cases d <;> rfl
theorem wM_eval (ms : List Deferred) (a : Act) (x : Operand) : (wM ms a).eval x = a.eval x := by cases x <;> rfl
section
variable {P : Program} {ms : List Deferred} {ops : Array Oper} {Q : Exit → Act → World → Prop} {rest : List Oper} {n d : Nat} {a : Act} {F : Fr} {w : World} {S : World → Prop}
  {op : Op} {ty : TypeId} {pos : String} {after : Array Edge} {v : Value}
theorem m_q (hF : Has n a F) (hS : S w) (q : Qt P S F op ty v) (hd : Nat.blt d n = true) (k : ∀ a', Has n a' ((d, v) :: F) → wpList P ops Q rest (wM ms a') w) :
    wpList P ops Q (⟨some d, op, ty, pos, after, none⟩ :: rest) (wM ms a) w := by
  refine wpList_plain rfl fun K hK => ?_
  unfold Oper.wp
  rw [q (wM ms a).eval (fun x u h => (wM_eval ms a x).trans (hF.eval h)) w hS]
  have := k _ (hF.put hd v)
  rw [← wM_put] at this
  exact hK _ _ this
theorem m_true {c : Operand} {x y : Code} (hF : Has n a F) (hc : oev F c = some (.bool true)) (h : x.wp P Q (wM ms a) w) : (Code.cond c x y).wp P Q (wM ms a) w := wp_cond_true ((wM_eval ms a c).trans (hF.eval hc)) h
theorem m_false {c : Operand} {x y : Code} (hF : Has n a F) (hc : oev F c = some (.bool false)) (h : y.wp P Q (wM ms a) w) : (Code.cond c x y).wp P Q (wM ms a) w := wp_cond_false ((wM_eval ms a c).trans (hF.eval hc)) h
end
end Go.W
/-! Plain: the digits of an exponent, from the top. -/
namespace Go.W
open Go Go.RowKit
def bitE (k : Nat) (j : Nat) : List Value := [.bool (decide (((k / 2 ^ (bl k - 1 - j) % 2 : Nat) : Int) = 1))]
theorem pw_top (a k : Nat) : pw a (k / 2 ^ (bl k - 0)) = 1 := by
  rw [Nat.sub_zero, Nat.div_eq_of_lt (bl_lt k), pw_step (by decide), if_pos rfl]
theorem pw_end (a k : Nat) : pw a (k / 2 ^ (bl k - bl k)) = pw a k := by rw [Nat.sub_self, Nat.pow_zero, Nat.div_one]
theorem pw_half {k j : Nat} (hj : j < bl k) : k / 2 ^ (bl k - j) = k / 2 ^ (bl k - 1 - j) / 2 := by
  rw [Nat.div_div_eq_div_mul, ← Nat.pow_succ]
  congr 2
  omega
theorem pw_one {a k j : Nat} (hk : k < 18446744073709551616) (hj : j < bl k) (hb : (((k / 2 ^ (bl k - 1 - j) % 2 : Nat) : Int) = 1)) :
    pw a (k / 2 ^ (bl k - (j + 1))) = pw a (k / 2 ^ (bl k - j)) * pw a (k / 2 ^ (bl k - j)) % 4611686018427377339 * a % 4611686018427377339 := by
  have e : bl k - (j + 1) = bl k - 1 - j := by omega
  have h1 : k / 2 ^ (bl k - 1 - j) % 2 = 1 := by omega
  have h0 : ¬ k / 2 ^ (bl k - 1 - j) = 0 := by intro h; rw [h] at h1; cases h1
  rw [e, pw_half hj, pw_step (Nat.lt_of_le_of_lt (Nat.div_le_self _ _) hk), if_neg h0, if_pos h1]
theorem pw_zero_ {a k j : Nat} (hk : k < 18446744073709551616) (hj : j < bl k) (hb : ¬ (((k / 2 ^ (bl k - 1 - j) % 2 : Nat) : Int) = 1)) :
    pw a (k / 2 ^ (bl k - (j + 1))) = pw a (k / 2 ^ (bl k - j)) * pw a (k / 2 ^ (bl k - j)) % 4611686018427377339 := by
  have e : bl k - (j + 1) = bl k - 1 - j := by omega
  have h1 : ¬ k / 2 ^ (bl k - 1 - j) % 2 = 1 := by omega
  rw [e, pw_half hj, pw_step (Nat.lt_of_le_of_lt (Nat.div_le_self _ _) hk)]
  split
  · rename_i h0
    rw [h0, show 0 / 2 = 0 from rfl, pw_step (by decide), if_pos rfl]
  · first | rfl | rw [if_neg h1]
theorem bl_le64 {k : Nat} (hk : k < 18446744073709551616) : bl k ≤ 64 := by
  by_cases h : k = 0
  · subst h; decide
  · rcases Nat.lt_or_ge 64 (bl k) with h1 | h1
    · have h2 : 2 ^ 64 ≤ 2 ^ (bl k - 1) := Nat.pow_le_pow_right (by decide) (by omega)
      have := (bl_pos h).1
      omega
    · exact h1
end Go.W
/-! Plain: a log replaced; the keys of stores. -/
namespace Go.W
open Go Go.RowKit
def repL (ls : List Lg) (p : Nat) (found : Bool) (l : Lg) : List Lg := bif found then ls.set p l else ls.insertIdx p l
abbrev EK := Int × Dg × List UInt8 × Bool
abbrev LK := Int × List EK
def repK : List LK → Int → List EK → List LK
  | [], f, es => [(f, es)]
  | k :: t, f, es => if k.1 < f then k :: repK t f es else if k.1 = f then (f, es) :: t else (f, es) :: k :: t
theorem Pos.tail {a : Lg} {t : List Lg} {f : Int} {q : Nat} (h : Pos (a :: t) f (q + 1)) : Pos t f q :=
  ⟨by have := h.le; simpa using this, fun j l hj hl => h.lo (j + 1) l (by omega) (by simpa using hl), fun j l hj hl => h.hi (j + 1) l (by omega) (by simpa using hl)⟩
theorem repL_key : ∀ {ls : List Lg} {f : Int} {p : Nat} (_ : Pos ls f p) (l : Lg) (_ : l.fo = f), (repL ls p (atF ls f p) l).map Lg.key = repK (ls.map Lg.key) f (l.es.map En.key)
  | [], f, p, h, l, hf => by
    have h0 : p = 0 := by simpa using h.le
    subst h0; subst hf
    simp [repL, atF, repK, Lg.key]
  | a :: t, f, 0, h, l, hf => by
    have h1 := h.hi 0 a (Nat.le_refl _) rfl
    subst hf
    by_cases e : a.fo = l.fo
    · simp [repL, atF, repK, Lg.key, e]
    · have h2 : ¬ a.fo < l.fo := by omega
      simp [repL, atF, repK, Lg.key, e, h2]
  | a :: t, f, q + 1, h, l, hf => by
    have h1 := h.lo 0 a (by omega) rfl
    have ih := repL_key h.tail l hf
    have e : atF (a :: t) f (q + 1) = atF t f q := by simp [atF]
    rw [e]
    have e2 : repL (a :: t) (q + 1) (atF t f q) l = a :: repL t q (atF t f q) l := by
      unfold repL
      cases atF t f q <;> simp [List.insertIdx_succ_cons]
    rw [e2, List.map_cons, ih]
    show _ = repK (a.key :: _) _ _
    simp only [repK]
    rw [if_pos (show a.key.1 < f from h1)]
theorem repL_mem {ls : List Lg} {p : Nat} {b : Bool} {l x : Lg} (hp : p ≤ ls.length) (h : x ∈ repL ls p b l) : x = l ∨ x ∈ ls := by
  unfold repL at h
  cases b with
  | true => simp only [cond_true] at h; rcases List.mem_or_eq_of_mem_set h with h | h; exact .inr h; exact .inl h
  | false => simp only [cond_false] at h; exact (List.mem_insertIdx hp).1 h
theorem repL_len {ls : List Lg} {p : Nat} {b : Bool} {l : Lg} (hp : p ≤ ls.length) : (repL ls p b l).length ≤ ls.length + 1 := by
  unfold repL
  cases b with
  | true => simp
  | false => simp only [cond_false, List.length_insertIdx]; split <;> omega
def entK (ks : List LK) (f : Int) : List EK := match ks.find? (fun k => decide (k.1 = f)) with
  | some k => k.2
  | none => []
theorem entF_key (ls : List Lg) (f : Int) : (entF ls f).map En.key = entK (ls.map Lg.key) f := by
  unfold entF entK
  rw [List.find?_map]
  show _ = match Option.map Lg.key (ls.find? (fun l => decide (l.key.1 = f))) with | some k => k.2 | none => []
  rw [show (fun l : Lg => decide (l.key.1 = f)) = fun l => decide (l.fo = f) from rfl]
  cases ls.find? (fun l => decide (l.fo = f)) <;> rfl
/-- Where a digest stands. -/
def idxK (es : List EK) (d : Dg) : Int := match es.findIdx? (fun e => decide (e.2.1 = d)) with | some i => i | none => -1
theorem idx_key (es : List En) (d : Dg) : idxDg es d = idxK (es.map En.key) d := by
  unfold idxDg idxK
  rw [List.findIdx?_map]
  rfl
end Go.W
/-! Plain: Put and Delete. -/
namespace Go.W
open Go Go.RowKit
theorem logs_le {ls : List Lg} (h : logsN ls = true) : ls.length ≤ 16 := by
  have hs := sorted_of h
  have hr : ∀ (j : Nat) (l : Lg), ls[j]? = some l → 0 ≤ l.fo ∧ l.fo < 16 := fun j l hl => by
    have hj := (List.getElem?_eq_some_iff.1 hl).1
    unfold logsN at h
    have h1 := List.all_eq_true.1 h j (List.mem_range.2 hj)
    rw [lgB_eq hl] at h1
    simp only [Bool.and_eq_true, decide_eq_true_eq] at h1
    exact h1.1.1
  have key : ∀ (j : Nat) (l : Lg), ls[j]? = some l → (j : Int) ≤ l.fo := by
    intro j
    induction j with
    | zero => intro l hl; exact (hr 0 l hl).1
    | succ j ih =>
      intro l hl
      have hj := (List.getElem?_eq_some_iff.1 hl).1
      have h0 : ls[j]? = some (ls[j]'(by omega)) := by simp
      have := ih _ h0
      have := hs j (j + 1) _ _ (by omega) h0 hl
      omega
  rcases Nat.lt_or_ge 16 ls.length with h1 | h1
  · have h0 : ls[16]? = some (ls[16]) := by simp
    have h2 := key 16 _ h0
    have h3 := (hr 16 _ h0).2
    omega
  · exact h1
theorem ent_le {ls : List Lg} (h : logsN ls = true) {p : Nat} {l : Lg} (hl : ls[p]? = some l) : l.es.length ≤ 65536 := by
  have hj := (List.getElem?_eq_some_iff.1 hl).1
  unfold logsN at h
  have h1 := List.all_eq_true.1 h p (List.mem_range.2 hj)
  rw [lgB_eq hl] at h1
  simp only [Bool.and_eq_true, decide_eq_true_eq, fineN] at h1
  exact h1.2.2.2
theorem StOK.zero (H : Froz) : StOK H ⟨0, 0, none, 0, []⟩ := ⟨RdL.nil _ _ _, (fun _ h => (by cases h)), Nat.zero_le _, Nat.zero_le _⟩
theorem idxDg_lt (es : List En) (d : Dg) : idxDg es d < es.length ∨ idxDg es d = -1 := by
  unfold idxDg
  cases h : es.findIdx? (fun e => decide (e.dg = d)) with
  | none => exact .inr rfl
  | some i =>
    refine .inl ?_
    obtain ⟨h1, _⟩ := List.findIdx?_eq_some_iff_getElem.1 h
    show (i : Int) < _
    omega
noncomputable def putE (s : Sto) (f kind : Int) (bs : List UInt8) : Int := (kept (if openE s f = 0 then (if 1 ≤ kind ∧ kind ≤ 7 then (if 0 ≤ idxDg (entF s.logs f) (digE kind bs) then 0 else if (entF s.logs f).length = 65536 then 2 else 0) else 1) else openE s f)).1
theorem putE_def (s : Sto) (f kind : Int) (bs : List UInt8) : putE s f kind bs = (if openE s f = 0 then (if 1 ≤ kind ∧ kind ≤ 7 then (if 0 ≤ idxDg (entF s.logs f) (digE kind bs) then 0 else if (entF s.logs f).length = 65536 then 2 else 0) else 1) else openE s f) := (kept _).2
noncomputable def putNo (s : Sto) (f kind : Int) (bs : List UInt8) : Int := (kept (if putE s f kind bs = 0 then (if 0 ≤ idxDg (entF s.logs f) (digE kind bs) then idxDg (entF s.logs f) (digE kind bs) + 1 else ((entF s.logs f).length : Int) + 1) else 0)).1
theorem putNo_def (s : Sto) (f kind : Int) (bs : List UInt8) : putNo s f kind bs = (if putE s f kind bs = 0 then (if 0 ≤ idxDg (entF s.logs f) (digE kind bs) then idxDg (entF s.logs f) (digE kind bs) + 1 else ((entF s.logs f).length : Int) + 1) else 0) := (kept _).2
noncomputable def putK (s : Sto) (f kind : Int) (bs : List UInt8) : List LK := if 0 ≤ idxDg (entF s.logs f) (digE kind bs) then s.logs.map Lg.key else repK (s.logs.map Lg.key) f ((entF s.logs f).map En.key ++ [(kind, digE kind bs, bs, false)])
def zSto : Sto := ⟨0, 0, none, 0, []⟩
/-- What Put hands back. -/
def PutR (s : Sto) (f kind : Int) (bs : List UInt8) (s' : Sto) : Prop :=
  (putE s f kind bs = 0 → s'.id = s.id ∧ s'.priv = s.priv ∧ s'.logs.map Lg.key = putK s f kind bs) ∧ (¬ putE s f kind bs = 0 → s' = zSto)
theorem putE_open {s : Sto} {f kind : Int} {bs : List UInt8} (h : ¬ openE s f = 0) : putE s f kind bs = openE s f ∧ putNo s f kind bs = 0 := by
  have h1 : putE s f kind bs = openE s f := by rw [putE_def, if_neg h]
  exact ⟨h1, by rw [putNo_def, if_neg (by rw [h1]; exact h)]⟩
theorem putE_kind {s : Sto} {f kind : Int} {bs : List UInt8} (h : openE s f = 0) (hk : ¬ (1 ≤ kind ∧ kind ≤ 7)) : putE s f kind bs = 1 ∧ putNo s f kind bs = 0 := by
  have h1 : putE s f kind bs = 1 := by rw [putE_def, if_pos h, if_neg hk]
  exact ⟨h1, by rw [putNo_def, if_neg (by rw [h1]; decide)]⟩
theorem putE_met {s : Sto} {f kind : Int} {bs : List UInt8} (h : openE s f = 0) (hk : 1 ≤ kind ∧ kind ≤ 7) (hi : 0 ≤ idxDg (entF s.logs f) (digE kind bs)) : putE s f kind bs = 0 ∧ putNo s f kind bs = idxDg (entF s.logs f) (digE kind bs) + 1 ∧ putK s f kind bs = s.logs.map Lg.key := by
  have h1 : putE s f kind bs = 0 := by rw [putE_def, if_pos h, if_pos hk, if_pos hi]
  exact ⟨h1, by rw [putNo_def, if_pos h1, if_pos hi], by rw [putK, if_pos hi]⟩
theorem putE_full {s : Sto} {f kind : Int} {bs : List UInt8} (h : openE s f = 0) (hk : 1 ≤ kind ∧ kind ≤ 7) (hi : ¬ 0 ≤ idxDg (entF s.logs f) (digE kind bs)) (hl : (entF s.logs f).length = 65536) : putE s f kind bs = 2 ∧ putNo s f kind bs = 0 := by
  have h1 : putE s f kind bs = 2 := by rw [putE_def, if_pos h, if_pos hk, if_neg hi, if_pos hl]
  exact ⟨h1, by rw [putNo_def, if_neg (by rw [h1]; decide)]⟩
theorem putE_new {s : Sto} {f kind : Int} {bs : List UInt8} (h : openE s f = 0) (hk : 1 ≤ kind ∧ kind ≤ 7) (hi : ¬ 0 ≤ idxDg (entF s.logs f) (digE kind bs)) (hl : ¬ (entF s.logs f).length = 65536) : putE s f kind bs = 0 ∧ putNo s f kind bs = ((entF s.logs f).length : Int) + 1 ∧ putK s f kind bs = repK (s.logs.map Lg.key) f ((entF s.logs f).map En.key ++ [(kind, digE kind bs, bs, false)]) := by
  have h1 : putE s f kind bs = 0 := by rw [putE_def, if_pos h, if_pos hk, if_neg hi, if_neg hl]
  exact ⟨h1, by rw [putNo_def, if_pos h1, if_neg hi], by rw [putK, if_neg hi]⟩
/-- An entry deleted. -/
def En.del (e : En) : En := ⟨e.kind, e.dg, none, 0, 0, [], true⟩
noncomputable def delE (s : Sto) (f no : Int) : Int := (kept (if openE s f = 0 then (if no < 1 ∨ ((entF s.logs f).length : Int) < no then 1 else if (((entF s.logs f)[(no - 1).toNat]?).map En.kind).getD 0 = 4 then 0 else 300) else openE s f)).1
theorem delE_def (s : Sto) (f no : Int) : delE s f no = (if openE s f = 0 then (if no < 1 ∨ ((entF s.logs f).length : Int) < no then 1 else if (((entF s.logs f)[(no - 1).toNat]?).map En.kind).getD 0 = 4 then 0 else 300) else openE s f) := (kept _).2
def delKey (k : EK) : EK := (k.1, k.2.1, [], true)
noncomputable def delK (s : Sto) (f no : Int) : List LK := repK (s.logs.map Lg.key) f (((entF s.logs f).map En.key).modify (no - 1).toNat delKey)
def DelR (s : Sto) (f no : Int) (s' : Sto) : Prop :=
  (delE s f no = 0 → s'.id = s.id ∧ s'.priv = s.priv ∧ s'.logs.map Lg.key = delK s f no) ∧ (¬ delE s f no = 0 → s' = zSto)
theorem en_ld0 {es : List En} {tail : List Value} {k : Nat} {e : En} (h : es[k]? = some e) : ldv false 1 ((enE es).flatten ++ tail) (k * 35) = some (.int .i64 e.kind) := by
  have h1 := ldv_flatten (agg := false) (sz := 1) (off := 0) (i := k) (fun x hx => by obtain ⟨e, _, rfl⟩ := List.mem_map.1 hx; exact En.c_len e) (show (enE es)[k]? = some e.c by simp [enE, h]) (by decide) (by decide) (show ldv false 1 e.c 0 = some (.int .i64 e.kind) from rfl)
  simp only [ldv, cond_false, Nat.add_zero] at h1 ⊢
  rw [List.getElem?_append_left (List.getElem?_eq_some_iff.1 h1).1]
  exact h1
theorem en_ld0' {es : List En} {tail : List Value} {k : Nat} {e : En} (h : es[k]? = some e) : ldv false 1 ((enE es).flatten ++ tail) (k * 35 + 0) = some (.int .i64 e.kind) := by rw [Nat.add_zero]; exact en_ld0 h
theorem en_set {es : List En} {tail : List Value} {k off : Nat} {e e' : En} {v : Value} (h : es[k]? = some e) (ho : off < 35) (hc : e.c.set off v = e'.c) : spl ((enE es).flatten ++ tail) (k * 35 + off) [v] = (enE (es.set k e')).flatten ++ tail := by
  obtain ⟨hk, he⟩ := List.getElem?_eq_some_iff.1 h
  have hl := enE_len es
  rw [spl_set _ _ _ (by rw [List.length_append, hl]; omega), List.set_append_left _ _ (by rw [hl]; omega)]
  congr 1
  have hsplit : enE es = enE (es.take k) ++ e.c :: enE (es.drop (k + 1)) := by
    have : es = es.take k ++ e :: es.drop (k + 1) := by rw [← he, ← List.drop_eq_getElem_cons hk, List.take_append_drop]
    conv => lhs; rw [this]
    simp [enE]
  have hset : enE (es.set k e') = enE (es.take k) ++ e'.c :: enE (es.drop (k + 1)) := by
    rw [List.set_eq_take_append_cons_drop, if_pos hk]
    simp [enE]
  have hA : (enE (es.take k)).flatten.length = k * 35 := by rw [enE_len, List.length_take, Nat.min_eq_left (by omega)]
  rw [hsplit, hset, List.flatten_append, List.flatten_append, List.flatten_cons, List.flatten_cons, List.set_append_right _ _ (by rw [hA]; omega), hA, Nat.add_sub_cancel_left, List.set_append_left _ _ (by rw [En.c_len]; exact ho), hc]
theorem del_st {es : List En} {tail : List Value} {k : Nat} {e : En} (h : es[k]? = some e) : spl (spl ((enE es).flatten ++ tail) (k * 35 + 33) [.slice none 0 0]) (k * 35 + 34) [.bool true] = (enE (es.set k e.del)).flatten ++ tail := by
  obtain ⟨hk, he⟩ := List.getElem?_eq_some_iff.1 h
  rw [en_set (e' := ⟨e.kind, e.dg, none, 0, 0, [], e.gone⟩) h (by decide) (by rw [En.c_set]; rfl),
    en_set (e := ⟨e.kind, e.dg, none, 0, 0, [], e.gone⟩) (e' := e.del) (by simp [hk]) (by decide) (by
      simp only [En.c, En.del]
      rw [show (34 : Nat) = 33 + 1 from rfl, List.set_cons_succ, List.set_append_right _ _ (by rw [dc_length]; decide), dc_length]
      rfl), List.set_set]
theorem del_ok {H : Froz} {es : List En} {k : Nat} {e : En} (ho : EnsOK H es) : EnsOK H (es.set k e.del) := by
  intro x hx
  rcases List.mem_or_eq_of_mem_set hx with hx | rfl
  · exact ho x hx
  · exact ⟨RdS.nil _ _ _, Nat.le_refl _, Nat.zero_le _⟩
theorem del_key {es : List En} {k : Nat} {e : En} (h : es[k]? = some e) : (es.set k e.del).map En.key = (es.map En.key).modify k delKey := by
  obtain ⟨hk, he⟩ := List.getElem?_eq_some_iff.1 h
  rw [List.map_set]
  apply List.ext_getElem?
  intro j
  rw [List.getElem?_set, List.getElem?_modify]
  by_cases hj : k = j
  · subst hj
    simp [hk, he, En.del, En.key, delKey]
  · simp [hj]
theorem bld_en (kind : Int) (d : Dg) (da : Option Addr) (dn dp : Nat) (bs : List UInt8) : bld [(0, 1), (1, 32), (33, 1), (34, 1)] (.int .i64 0 :: (List.replicate 32 (.int .u8 0) ++ [.slice none 0 0, .bool false])) [(0, .int .i64 kind), (1, .agg (dc d).toArray), (2, .slice da dn dp)] = some (En.c ⟨kind, d, da, dn, dp, bs, false⟩) := by
  have h1 : (Value.agg (dc d).toArray).cells.toList = dc d := rfl
  have h2 : ∀ (x : Value) (y : List Value), spl (.int .i64 0 :: y) 0 [x] = x :: y := fun x y => rfl
  have h3 : ∀ (x a b : Value), spl (x :: (List.replicate 32 (Value.int .u8 0) ++ [a, b])) 1 (dc d) = x :: (dc d ++ [a, b]) := fun x a b => by
    unfold spl
    rw [dc_length]
    rfl
  have h4 : ∀ (x a b y : Value), spl (x :: (dc d ++ [a, b])) 33 [y] = x :: (dc d ++ [y, b]) := fun x a b y => by
    rw [spl_set _ _ _ (by simp [dc_length]), show (33 : Nat) = 32 + 1 from rfl, List.set_cons_succ, List.set_append_right _ _ (by rw [dc_length]; exact Nat.le_refl _), dc_length]
    rfl
  simp only [bld, List.getElem?_cons_zero, List.getElem?_cons_succ]
  rw [if_pos ⟨rfl, by simp⟩, show (Value.int IntKind.i64 kind).cells.toList = [.int .i64 kind] from rfl, h2, h1, if_pos ⟨dc_length d, by simp⟩, h3, if_pos ⟨rfl, by simp [dc_length]⟩, show (Value.slice da dn dp).cells.toList = [.slice da dn dp] from rfl, h4]
  rfl
theorem enE_snoc (es : List En) (e : En) : (enE (es ++ [e])).flatten = (enE es).flatten ++ [e.c].flatten := by simp [enE]
end Go.W
/-! Plain: Sign. -/
namespace Go.W
open Go Go.RowKit
/-- What the digests' iterator yields. -/
def dgY (ds : List Dg) (j : Nat) : List Value := match ds[j]? with
  | some d => [.agg (dc d).toArray]
  | none => []
theorem dgY_at {ds : List Dg} {j : Nat} {d : Dg} (h : ds[j]? = some d) : dgY ds j = [.agg (dc d).toArray] := by unfold dgY; rw [h]
theorem dgY_len {ds : List Dg} {j : Nat} (h : j < ds.length) : (dgY ds j).length = 1 := by rw [dgY_at (d := ds[j]) (by simp)]; rfl
theorem dgE_len (ds : List Dg) : (dgE ds).flatten.length = ds.length * 32 := by
  rw [flatten_len (k := 32) (fun x hx => by obtain ⟨e, _, rfl⟩ := List.mem_map.1 hx; exact dc_length e)]; simp [dgE]
theorem dgE_snoc {ds : List Dg} {j : Nat} {d : Dg} (h : ds[j]? = some d) : (dgE (ds.take (j + 1))).flatten = (dgE (ds.take j)).flatten ++ [dc d].flatten := by
  obtain ⟨hj, he⟩ := List.getElem?_eq_some_iff.1 h
  rw [List.take_succ_eq_append_getElem hj, he]
  simp [dgE]
theorem RdL.of_dg {H : Froz} {a : Option Addr} {ds : List Dg} (h : RdS H a ds.length 32 (dgE ds).flatten) : RdL H a 32 (dgE ds) :=
  ⟨by rw [show (dgE ds).length = ds.length by simp [dgE]]; exact h, fun x hx => by obtain ⟨e, _, rfl⟩ := List.mem_map.1 hx; exact dc_length e⟩
noncomputable def signE (s : Sto) (f : Int) (n : Nat) : Int := (kept (if openE s f = 0 then (if 65536 < n then 1 else 0) else openE s f)).1
theorem signE_def (s : Sto) (f : Int) (n : Nat) : signE s f n = (if openE s f = 0 then (if 65536 < n then 1 else 0) else openE s f) := (kept _).2
noncomputable def headU (s : Sto) (f : Int) (ds : List Dg) : Hd := ⟨s.id, f, (ds.length : Int), chainN f ds, 0, 0⟩
noncomputable def headN (s : Sto) (f : Int) (ds : List Dg) : Hd := { headU s f ds with R := (sigP s.priv (msgN (headU s f ds)).l).1.1, S := (sigP s.priv (msgN (headU s f ds)).l).1.2 }
def zDg : Dg := ⟨List.replicate 32 0, by simp⟩
def zHd : Hd := ⟨0, 0, 0, zDg, 0, 0⟩
noncomputable def signH (s : Sto) (f : Int) (ds : List Dg) : Hd := (kept (if signE s f ds.length = 0 then headN s f ds else zHd)).1
theorem signH_def (s : Sto) (f : Int) (ds : List Dg) : signH s f ds = (if signE s f ds.length = 0 then headN s f ds else zHd) := (kept _).2
theorem bld_hd (st fo no : Int) (d : Dg) : bld [(0, 1), (1, 1), (2, 1), (3, 32), (35, 2)] (.int .i64 0 :: .int .i64 0 :: .int .i64 0 :: (List.replicate 32 (.int .u8 0) ++ [.int .i64 0, .int .i64 0])) [(0, .int .i64 st), (1, .int .i64 fo), (2, .int .i64 no), (3, .agg (dc d).toArray)] = some (Hd.c ⟨st, fo, no, d, 0, 0⟩) := by
  have h1 : (Value.agg (dc d).toArray).cells.toList = dc d := rfl
  have hi : ∀ n : Int, (Value.int IntKind.i64 n).cells.toList = [.int .i64 n] := fun n => rfl
  have h2 : ∀ (a x : Value) (y : List Value), spl (a :: y) 0 [x] = x :: y := fun a x y => rfl
  have h3 : ∀ (a b x : Value) (y : List Value), spl (a :: b :: y) 1 [x] = a :: x :: y := fun a b x y => rfl
  have h4 : ∀ (a b c x : Value) (y : List Value), spl (a :: b :: c :: y) 2 [x] = a :: b :: x :: y := fun a b c x y => rfl
  have h5 : ∀ (x y z a b : Value), spl (x :: y :: z :: (List.replicate 32 (Value.int .u8 0) ++ [a, b])) 3 (dc d) = x :: y :: z :: (dc d ++ [a, b]) := fun x y z a b => by
    unfold spl
    rw [dc_length]
    rfl
  simp only [bld, List.getElem?_cons_zero, List.getElem?_cons_succ]
  rw [hi st, hi fo, hi no, h1, h2, h3, h4, h5, if_pos ⟨rfl, by simp⟩, if_pos ⟨rfl, by simp⟩, if_pos ⟨rfl, by simp⟩, if_pos ⟨dc_length d, by simp⟩]
  rfl
theorem Hd.set_sig (h : Hd) (R S : Int) : spl h.c 35 [.int .i64 R, .int .i64 S] = Hd.c ⟨h.st, h.fo, h.no, h.ch, R, S⟩ := by
  unfold spl Hd.c
  rw [show (35 : Nat) = 32 + 1 + 1 + 1 from rfl, List.take_succ_cons, List.take_succ_cons, List.take_succ_cons, List.take_append_of_le_length (by rw [dc_length]; exact Nat.le_refl _), List.take_of_length_le (by rw [dc_length]; exact Nat.le_refl _)]
  rw [List.drop_of_length_le (by simp [dc_length])]
  simp
theorem zHd_c : zHd.c = .int .i64 0 :: .int .i64 0 :: .int .i64 0 :: (List.replicate 32 (.int .u8 0) ++ [.int .i64 0, .int .i64 0]) := rfl
end Go.W
/-! Plain: what is signed verifies. -/
namespace Go.W
open Go Go.RowKit
theorem pw4Q : pw 4 QN = 1 := by rw [pw_def]; decide +kernel
theorem pow4 (Q : Nat) (h : Q = 2305843009213688669) : 4 ^ Q % PN = 1 := by
  rw [← pw_spec (by omega), h]; exact pw4Q
theorem pow_ord {Q : Nat} (h : 4 ^ Q % PN = 1) (n : Nat) : 4 ^ (n % Q) % PN = 4 ^ n % PN := by
  have e : 4 ^ n = (4 ^ Q) ^ (n / Q) * 4 ^ (n % Q) := by rw [← Nat.pow_mul, ← Nat.pow_add, Nat.div_add_mod]
  rw [e, Nat.mul_mod, Nat.pow_mod (4 ^ Q), h, Nat.one_pow, show 1 % PN = 1 from rfl, Nat.one_mul, Nat.mod_mod]
theorem inG_pw {k : Nat} (hk : k < 2 ^ 64) : inG (pw 4 k : Int) = true := by
  obtain ⟨Q, hQ⟩ : ∃ Q, Q = 2305843009213688669 := ⟨_, rfl⟩
  have h4 := pow4 Q hQ
  have h1 : pw (pw 4 k) Q = 1 := by
    rw [pw_spec (by omega), pw_spec hk, ← Nat.pow_mod, ← Nat.pow_mul, Nat.mul_comm, Nat.pow_mul, Nat.pow_mod, h4, Nat.one_pow]; rfl
  have h2 : 1 ≤ pw 4 k := by
    rcases Nat.eq_zero_or_pos (pw 4 k) with h0 | h0
    · rw [h0, pw_spec (by omega), Nat.zero_pow (by omega)] at h1
      cases h1
    · exact h0
  have h3 := pw_lt 4 k
  rw [inG_mid (by omega) (by show (pw 4 k : Int) < ((PN : Nat) : Int); omega), Int.toNat_natCast]
  show decide (pw (pw 4 k) 2305843009213688669 = 1) = true
  rw [← hQ, h1]; rfl
theorem base_nat {k : Nat} (hk : k < 2305843009213688669) : baseP (k : Int) = ((pw 4 k : Int), 0) := by
  rw [baseP_def, if_pos (by omega), Int.toNat_natCast]
theorem badQ_nat {k : Nat} (hk : k < 2305843009213688669) : badQ (k : Int) = false := by
  unfold badQ
  rw [(kept _).2]
  exact decide_eq_false (by omega)
theorem sig_ok {x : Int} (hx : keyOk x = true) (msg : List UInt8) : verP (pubP x).1 msg (sigP x msg).1.1 (sigP x msg).1.2 = true ∧ (sigP x msg).2 = 0 := by
  rw [keyOk_def, decide_eq_true_eq] at hx
  obtain ⟨n, rfl⟩ : ∃ n : Nat, x = n := ⟨x.toNat, by omega⟩
  have hn : n < 2305843009213688669 := by omega
  obtain ⟨k, hk⟩ : ∃ k, k = hashN tNonce msg [(n : Int)] := ⟨_, rfl⟩
  have hkr := hashN_range tNonce msg [(n : Int)]
  rw [← hk] at hkr
  have hbn := base_nat hn
  have hbk := base_nat (k := k) hkr.2
  obtain ⟨c, hc⟩ : ∃ c, c = hashN tSign msg [(pw 4 k : Int), (pw 4 n : Int)] := ⟨_, rfl⟩
  have hcr := hashN_range tSign msg [(pw 4 k : Int), (pw 4 n : Int)]
  rw [← hc] at hcr
  obtain ⟨Q, hQ⟩ : ∃ Q, Q = 2305843009213688669 := ⟨_, rfl⟩
  have h4 : 4 ^ Q % PN = 1 := pow4 Q hQ
  have hR : sigR n msg = (pw 4 k : Int) := by unfold sigR; rw [← hk, hbk]
  have hM : sigM n msg = ((c * n % Q : Nat) : Int) := by
    unfold sigM
    rw [hR, hbn]
    show (fMulP (hashN tSign msg [(pw 4 k : Int), (pw 4 n : Int)]) n).1 = _
    rw [← hc, fMulP_def, badQ_nat hcr.2, badQ_nat hn, if_neg (by simp), hQ]
    show (c : Int) * n % 2305843009213688669 = _
    omega
  have hml : c * n % Q < 2305843009213688669 := by rw [hQ]; exact Nat.mod_lt _ (by decide)
  have hS : fAddP k (sigM n msg) = ((((k + c * n % Q) % Q : Nat) : Int), 0) := by
    rw [hM, fAddP_def, badQ_nat hkr.2, badQ_nat hml, if_neg (by simp)]
    generalize c * n % Q = m at *
    subst hQ
    rw [show ((k : Int) + (m : Int)) % 2305843009213688669 = (((k + m) % 2305843009213688669 : Nat) : Int) by omega]
  have hs : sigP n msg = (((pw 4 k : Int), (((k + c * n % Q) % Q : Nat) : Int)), 0) := by
    unfold sigP
    rw [keyOk_def, decide_eq_true hx, ← hk, hS, hR]
    rfl
  have hp : (pubP n).1 = (pw 4 n : Int) := by rw [pubP_yes hx, hbn]
  rw [hs, hp]
  refine ⟨?_, rfl⟩
  show verP (pw 4 n : Int) msg (pw 4 k : Int) (((k + c * n % Q) % Q : Nat) : Int) = true
  have hSl : (k + c * n % Q) % Q < 2305843009213688669 := by rw [hQ]; exact Nat.mod_lt _ (by decide)
  unfold verP
  rw [inG_pw (by omega), inG_pw (by omega), badQ_nat hSl, base_nat hSl, ← hc, expP_def, inG_pw (by omega)]
  simp only [Bool.true_and, Bool.not_false]
  rw [if_pos trivial, if_pos (by omega)]
  simp only [Int.toNat_natCast]
  have hi : inG ((pw (pw 4 n) c : Nat) : Int) = true := by
    have e : pw (pw 4 n) c = pw 4 (n * c % Q) := by
      rw [pw_spec (by omega), pw_spec (by omega), pw_spec (by have : n * c % Q < 2305843009213688669 := (by rw [hQ]; exact Nat.mod_lt _ (by decide)); omega), ← Nat.pow_mod, ← Nat.pow_mul, pow_ord h4]
    rw [e]
    exact inG_pw (by have : n * c % Q < 2305843009213688669 := (by rw [hQ]; exact Nat.mod_lt _ (by decide)); omega)
  apply decide_eq_true
  rw [mulP_def, inG_pw (by omega), hi, if_pos ⟨rfl, rfl⟩]
  simp only [Int.toNat_natCast]
  have e : pw 4 ((k + c * n % Q) % Q) = pw 4 k * pw (pw 4 n) c % 4611686018427377339 := by
    rw [pw_spec (by omega), pw_spec (k := k) (by omega), pw_spec (k := c) (by omega), pw_spec (k := n) (by omega), pow_ord h4]
    rw [← Nat.pow_mod, ← Nat.pow_mul]
    show _ = (4 ^ k % PN) * (4 ^ (n * c) % PN) % PN
    rw [← Nat.mul_mod, ← Nat.pow_add, ← pow_ord h4 (k + c * n % Q), ← pow_ord h4 (k + n * c), Nat.mul_comm n c]
    congr 2
    rw [Nat.add_mod, Nat.mod_mod, ← Nat.add_mod]
  rw [e]
end Go.W
/-! Plain: stores by their keys. -/
namespace Go.W
open Go Go.RowKit
def okK (e : EK) : Prop := (e.2.2.2 = true ∧ e.1 = 4 ∧ e.2.2.1 = []) ∨ (e.2.2.2 = false ∧ (1 ≤ e.1 ∧ e.1 ≤ 7) ∧ e.2.1 = digE e.1 e.2.2.1)
/-- The entries of a log, or of none. -/
structure VL (es : List EK) : Prop where
  ok : ∀ e ∈ es, okK e
  nd : (es.map (·.2.1)).Nodup
  le : es.length ≤ 65536
structure VK (ks : List LK) : Prop where
  srt : ks.Pairwise (fun a b => a.1 < b.1)
  rng : ∀ k ∈ ks, 0 ≤ k.1 ∧ k.1 < 16
  fine : ∀ k ∈ ks, VL k.2
  pos : ∀ k ∈ ks, 0 < k.2.length
theorem dn_bs {H : Froz} {e : En} (h : RdS H e.da e.dn 1 (bc e.bs)) : e.dn = e.bs.length := by have := h.len; rw [bc_length] at this; omega
theorem okE_key {H : Froz} {e : En} (h : RdS H e.da e.dn 1 (bc e.bs)) : okE e = true ↔ okK e.key := by
  have hd := dn_bs h
  unfold okE okK En.key
  cases hg : e.gone with
  | true =>
    simp only [if_true, decide_eq_true_eq, true_and, Bool.true_eq_false, false_and, or_false]
    rw [hd]
    exact ⟨fun q => ⟨q.1, List.eq_nil_of_length_eq_zero q.2⟩, fun q => ⟨q.1, by rw [q.2]; rfl⟩⟩
  | false => simp
theorem fineN_key {H : Froz} {es : List En} (ho : EnsOK H es) : fineN es = true ↔ VL (es.map En.key) ∧ 0 < es.length := by
  have h1 : es.all okE = true ↔ ∀ e ∈ es.map En.key, okK e := by
    rw [List.all_eq_true]
    constructor
    · intro h e he
      obtain ⟨x, hx, rfl⟩ := List.mem_map.1 he
      exact (okE_key (ho x hx).1).1 (h x hx)
    · intro h x hx
      exact (okE_key (ho x hx).1).2 (h _ (List.mem_map.2 ⟨x, hx, rfl⟩))
  have h2 : (es.map En.dg) = (es.map En.key).map (·.2.1) := by rw [List.map_map]; rfl
  unfold fineN
  rw [Bool.and_eq_true, Bool.and_eq_true, h1, decide_eq_true_eq, decide_eq_true_eq, h2]
  exact ⟨fun h => ⟨⟨h.1.1, h.1.2, by rw [List.length_map]; exact h.2.2⟩, h.2.1⟩, fun h => ⟨⟨h.1.ok, h.1.nd⟩, h.2, by have := h.1.le; rwa [List.length_map] at this⟩⟩
theorem logsN_key {H : Froz} {ls : List Lg} (ho : ∀ l ∈ ls, LgOK H l) : logsN ls = true ↔ VK (ls.map Lg.key) := by
  constructor
  · intro h
    have hs := sorted_of h
    have hb : ∀ l ∈ ls, (0 ≤ l.fo ∧ l.fo < 16) ∧ fineN l.es = true := fun l hl => by
      obtain ⟨j, hj⟩ := List.mem_iff_getElem?.1 hl
      have hjl := (List.getElem?_eq_some_iff.1 hj).1
      unfold logsN at h
      have h1 := List.all_eq_true.1 h j (List.mem_range.2 hjl)
      rw [lgB_eq hj] at h1
      simp only [Bool.and_eq_true, decide_eq_true_eq] at h1
      exact ⟨h1.1.1, h1.2⟩
    refine ⟨?_, fun k hk => ?_, fun k hk => ?_, fun k hk => ?_⟩
    · rw [List.pairwise_iff_getElem]
      intro i j hi hj hij
      rw [List.length_map] at hi hj
      rw [List.getElem_map, List.getElem_map]
      exact hs i j _ _ hij (List.getElem?_eq_getElem hi) (List.getElem?_eq_getElem hj)
    · obtain ⟨l, hl, rfl⟩ := List.mem_map.1 hk; exact (hb l hl).1
    · obtain ⟨l, hl, rfl⟩ := List.mem_map.1 hk; exact ((fineN_key (ho l hl).en).1 (hb l hl).2).1
    · obtain ⟨l, hl, rfl⟩ := List.mem_map.1 hk; have := ((fineN_key (ho l hl).en).1 (hb l hl).2).2; show 0 < (l.es.map En.key).length; rw [List.length_map]; exact this
  · intro h
    apply logsN_yes
    intro j hj
    have hjm : ls[j] ∈ ls := List.getElem_mem hj
    have hkm : ls[j].key ∈ ls.map Lg.key := List.mem_map.2 ⟨_, hjm, rfl⟩
    refine lgB_ok (List.getElem?_eq_getElem hj) (h.rng _ hkm) ?_ ((fineN_key (ho _ hjm).en).2 ⟨h.fine _ hkm, by have := h.pos _ hkm; simpa [Lg.key] using this⟩)
    rcases Nat.eq_zero_or_pos j with h0 | h0
    · exact .inl h0
    · refine .inr ?_
      have h1 : ls[j - 1]? = some (ls[j - 1]'(by omega)) := List.getElem?_eq_getElem _
      rw [h1]
      have := List.pairwise_iff_getElem.1 h.srt (j - 1) j (by rw [List.length_map]; omega) (by rw [List.length_map]; exact hj) (by omega)
      rw [List.getElem_map, List.getElem_map] at this
      exact this
theorem checkN_key {H : Froz} {s : Sto} (ho : StOK H s) : checkN s = 0 ↔ (newP s.id s.priv).2.2 = 0 ∧ VK (s.logs.map Lg.key) := by
  rw [checkN_def, ← logsN_key ho.lg]
  constructor
  · intro h
    split at h
    · rename_i h1; exact h1
    · cases h
  · intro h; rw [if_pos h]
theorem openE_key {H : Froz} {s : Sto} (ho : StOK H s) (h1 : (newP s.id s.priv).2.2 = 0) (h2 : VK (s.logs.map Lg.key)) (f : Int) : openE s f = if 0 ≤ f ∧ f < 16 then 0 else 1 := by
  rw [openE_def, if_pos ((checkN_key ho).2 ⟨h1, h2⟩)]
theorem entK_nil (f : Int) : entK [] f = [] := rfl
theorem entK_cons (k : LK) (t : List LK) (f : Int) : entK (k :: t) f = if k.1 = f then k.2 else entK t f := by
  unfold entK
  rw [List.find?_cons]
  by_cases h : k.1 = f <;> simp [h]
theorem entK_rep (f : Int) (es : List EK) : ∀ ks : List LK, entK (repK ks f es) f = es
  | [] => by simp [repK, entK_cons]
  | k :: t => by
    simp only [repK]
    split
    · rename_i h; rw [entK_cons, if_neg (by omega)]; exact entK_rep f es t
    · split <;> rw [entK_cons, if_pos rfl]
theorem entK_other (f g : Int) (es : List EK) (h : g ≠ f) : ∀ ks : List LK, entK (repK ks f es) g = entK ks g
  | [] => by simp only [repK, entK_cons]; rw [if_neg (by omega)]
  | k :: t => by
    simp only [repK]
    split
    · rw [entK_cons, entK_cons, entK_other f g es h t]
    · split
      · rename_i h1 h2; rw [entK_cons, entK_cons, if_neg (by omega), if_neg (by omega)]
      · rw [entK_cons, if_neg (by omega)]
theorem repK_mem (f : Int) (es : List EK) : ∀ (ks : List LK) (x : LK), x ∈ repK ks f es → x = (f, es) ∨ x ∈ ks
  | [], x, h => by simp only [repK, List.mem_singleton] at h; exact .inl h
  | k :: t, x, h => by
    simp only [repK] at h
    split at h
    · rcases List.mem_cons.1 h with h | h
      · exact .inr (h ▸ List.mem_cons_self)
      · rcases repK_mem f es t x h with h | h
        · exact .inl h
        · exact .inr (List.mem_cons_of_mem _ h)
    · split at h
      · rcases List.mem_cons.1 h with h | h
        · exact .inl h
        · exact .inr (List.mem_cons_of_mem _ h)
      · rcases List.mem_cons.1 h with h | h
        · exact .inl h
        · exact .inr h
theorem repK_srt (f : Int) (es : List EK) : ∀ (ks : List LK), ks.Pairwise (fun a b => a.1 < b.1) → (repK ks f es).Pairwise (fun a b => a.1 < b.1)
  | [], _ => by simp [repK]
  | k :: t, h => by
    have h1 := List.pairwise_cons.1 h
    simp only [repK]
    split
    · rename_i hk
      refine List.pairwise_cons.2 ⟨fun x hx => ?_, repK_srt f es t h1.2⟩
      rcases repK_mem f es t x hx with rfl | hx
      · exact hk
      · exact h1.1 x hx
    · split
      · rename_i hk he
        refine List.pairwise_cons.2 ⟨fun x hx => ?_, h1.2⟩
        have := h1.1 x hx
        show f < x.1
        omega
      · rename_i hk he
        refine List.pairwise_cons.2 ⟨fun x hx => ?_, h⟩
        show f < x.1
        rcases List.mem_cons.1 hx with rfl | hx
        · omega
        · have := h1.1 x hx; omega
theorem VK.rep {ks : List LK} {f : Int} {es : List EK} (h : VK ks) (hf : 0 ≤ f ∧ f < 16) (he : VL es) (hp : 0 < es.length) : VK (repK ks f es) where
  srt := repK_srt f es ks h.srt
  rng k hk := by rcases repK_mem f es ks k hk with rfl | hk; exact hf; exact h.rng k hk
  fine k hk := by rcases repK_mem f es ks k hk with rfl | hk; exact he; exact h.fine k hk
  pos k hk := by rcases repK_mem f es ks k hk with rfl | hk; exact hp; exact h.pos k hk
theorem VL.nil : VL [] := ⟨fun _ h => (by cases h), List.nodup_nil, Nat.zero_le _⟩
theorem VK.nil : VK [] := ⟨List.Pairwise.nil, fun _ h => (by cases h), fun _ h => (by cases h), fun _ h => (by cases h)⟩
theorem VK.ent {ks : List LK} (h : VK ks) (f : Int) : VL (entK ks f) := by
  unfold entK
  cases hf : ks.find? (fun k => decide (k.1 = f)) with
  | none => exact VL.nil
  | some k => exact h.fine k (List.mem_of_find?_eq_some hf)
theorem idxK_no {es : List EK} {d : Dg} (h : ¬ 0 ≤ idxK es d) : d ∉ es.map (·.2.1) := by
  unfold idxK at h
  cases hf : es.findIdx? (fun e => decide (e.2.1 = d)) with
  | some i => rw [hf] at h; exact absurd (Int.natCast_nonneg i) h
  | none =>
    intro hm
    obtain ⟨e, he, hd⟩ := List.mem_map.1 hm
    have := List.findIdx?_eq_none_iff.1 hf e he
    simp [hd] at this
theorem idxK_yes {es : List EK} {d : Dg} (h : 0 ≤ idxK es d) : ∃ (i : Nat) (e : EK), idxK es d = i ∧ es[i]? = some e ∧ e.2.1 = d := by
  unfold idxK at *
  cases hf : es.findIdx? (fun e => decide (e.2.1 = d)) with
  | none => rw [hf] at h; exact absurd h (by decide)
  | some i =>
    obtain ⟨h1, h2, _⟩ := List.findIdx?_eq_some_iff_getElem.1 hf
    exact ⟨i, es[i], rfl, List.getElem?_eq_getElem h1, by simpa using h2⟩
theorem idxK_snoc {es : List EK} {d : Dg} {e : EK} (h : ¬ 0 ≤ idxK es d) (he : e.2.1 = d) : idxK (es ++ [e]) d = es.length := by
  have hn := idxK_no h
  have : (es ++ [e]).findIdx? (fun e => decide (e.2.1 = d)) = some es.length := by
    rw [List.findIdx?_append]
    have : es.findIdx? (fun e => decide (e.2.1 = d)) = none := List.findIdx?_eq_none_iff.2 fun x hx => by
      have : ¬ x.2.1 = d := fun q => hn (List.mem_map.2 ⟨x, hx, q⟩)
      simp [this]
    rw [this]
    simp [he]
  unfold idxK
  rw [this]
theorem VL.put {es : List EK} {kind : Int} {bs : List UInt8} (h : VL es) (hk : 1 ≤ kind ∧ kind ≤ 7) (hi : ¬ 0 ≤ idxK es (digE kind bs)) (hl : ¬ es.length = 65536) : VL (es ++ [(kind, digE kind bs, bs, false)]) where
  ok e he := by
    rcases List.mem_append.1 he with he | he
    · exact h.ok e he
    · rw [List.mem_singleton.1 he]; exact .inr ⟨rfl, hk, rfl⟩
  nd := by
    rw [List.map_append, List.nodup_append]
    refine ⟨h.nd, by simp, fun a ha b hb => ?_⟩
    simp only [List.map_cons, List.map_nil, List.mem_singleton] at hb
    rw [hb]
    rintro rfl
    exact idxK_no hi ha
  le := by have := h.le; rw [List.length_append]; show es.length + 1 ≤ _; omega
theorem map_modify_dg (es : List EK) (i : Nat) : (es.modify i delKey).map (fun e : EK => e.2.1) = es.map (fun e : EK => e.2.1) := by
  apply List.ext_getElem?
  intro j
  rw [List.getElem?_map, List.getElem?_map, List.getElem?_modify]
  cases es[j]? with
  | none => rfl
  | some x => by_cases h : i = j <;> simp [h, delKey]
theorem VL.del {es : List EK} {i : Nat} {e : EK} (h : VL es) (hi : es[i]? = some e) (he : e.1 = 4) : VL (es.modify i delKey) where
  ok x hx := by
    obtain ⟨j, hj⟩ := List.mem_iff_getElem?.1 hx
    rw [List.getElem?_modify] at hj
    by_cases hij : i = j
    · subst hij
      rw [hi] at hj
      simp only [if_true, Option.map_eq_map, Option.map_some, Option.some.injEq] at hj
      rw [← hj]
      exact .inl ⟨rfl, he, rfl⟩
    · cases hx2 : es[j]? with
      | none => rw [hx2] at hj; cases hj
      | some y =>
        rw [hx2] at hj
        simp only [hij, if_false, Option.map_eq_map, Option.map_some, Option.some.injEq] at hj
        rw [← show y = x from hj]
        exact h.ok y (List.mem_of_getElem? hx2)
  nd := by rw [map_modify_dg]; exact h.nd
  le := by rw [List.length_modify]; exact h.le
end Go.W
/-! Plain: what the layer's functions do to a good store. -/
namespace Go.W
open Go Go.RowKit
structure GoodS (H : Froz) (s : Sto) (id priv : Int) (ks : List LK) : Prop where
  ok : StOK H s
  hid : s.id = id
  hpriv : s.priv = priv
  new : (newP id priv).2.2 = 0
  keys : s.logs.map Lg.key = ks
  vk : VK ks
theorem GoodS.mono {H H' : Froz} {s : Sto} {id priv : Int} {ks : List LK} (h : GoodS H s id priv ks) (hle : Le H H') : GoodS H' s id priv ks := ⟨h.ok.mono hle, h.hid, h.hpriv, h.new, h.keys, h.vk⟩
section
variable {H H' : Froz} {s s' : Sto} {id priv f kind no fr : Int} {ks : List LK} {bs : List UInt8}
theorem GoodS.check (h : GoodS H s id priv ks) : checkN s = 0 := (checkN_key h.ok).2 ⟨by rw [h.hid, h.hpriv]; exact h.new, by rw [h.keys]; exact h.vk⟩
theorem GoodS.open_ (h : GoodS H s id priv ks) (f : Int) : openE s f = if 0 ≤ f ∧ f < 16 then 0 else 1 := by rw [openE_def, if_pos h.check]
theorem GoodS.ent (h : GoodS H s id priv ks) (f : Int) : (entF s.logs f).map En.key = entK ks f := by rw [entF_key, h.keys]
theorem GoodS.entLen (h : GoodS H s id priv ks) (f : Int) : (entF s.logs f).length = (entK ks f).length := by rw [← h.ent, List.length_map]
theorem GoodS.idx (h : GoodS H s id priv ks) (f : Int) (d : Dg) : idxDg (entF s.logs f) d = idxK (entK ks f) d := by rw [idx_key, h.ent]
noncomputable def putEK (ks : List LK) (f kind : Int) (bs : List UInt8) : Int := if 0 ≤ f ∧ f < 16 then (if 1 ≤ kind ∧ kind ≤ 7 then (if 0 ≤ idxK (entK ks f) (digE kind bs) then 0 else if (entK ks f).length = 65536 then 2 else 0) else 1) else 1
noncomputable def putNK (ks : List LK) (f kind : Int) (bs : List UInt8) : Int := if putEK ks f kind bs = 0 then (if 0 ≤ idxK (entK ks f) (digE kind bs) then idxK (entK ks f) (digE kind bs) + 1 else ((entK ks f).length : Int) + 1) else 0
noncomputable def putKK (ks : List LK) (f kind : Int) (bs : List UInt8) : List LK := if 0 ≤ idxK (entK ks f) (digE kind bs) then ks else repK ks f (entK ks f ++ [(kind, digE kind bs, bs, false)])
theorem GoodS.putE (h : GoodS H s id priv ks) : putE s f kind bs = putEK ks f kind bs := by
  rw [putE_def, h.open_, h.idx, h.entLen]
  unfold putEK
  by_cases hf : 0 ≤ f ∧ f < 16
  · rw [if_pos hf, if_pos rfl, if_pos hf]
  · rw [if_neg hf, if_neg (by decide), if_neg hf]
theorem GoodS.putNo (h : GoodS H s id priv ks) : putNo s f kind bs = putNK ks f kind bs := by rw [putNo_def, h.putE, h.idx, h.entLen]; rfl
theorem GoodS.put (h : GoodS H s id priv ks) (hok : StOK H' s') (hR : PutR s f kind bs s') (he : putEK ks f kind bs = 0) : GoodS H' s' id priv (putKK ks f kind bs) := by
  obtain ⟨h1, h2, h3⟩ := hR.1 (h.putE.trans he)
  refine ⟨hok, h1.trans h.hid, h2.trans h.hpriv, h.new, ?_, ?_⟩
  · rw [h3]; unfold putK putKK; rw [h.idx, h.ent, h.keys]
  · unfold putEK at he
    split at he
    · rename_i hf
      split at he
      · rename_i hk
        unfold putKK
        split
        · exact h.vk
        · rename_i hi
          rw [if_neg hi] at he
          split at he
          · cases he
          · rename_i hl
            exact h.vk.rep hf ((h.vk.ent f).put hk hi hl) (by rw [List.length_append]; exact Nat.succ_pos _)
      · cases he
    · cases he
noncomputable def delEK (ks : List LK) (f no : Int) : Int := if 0 ≤ f ∧ f < 16 then (if no < 1 ∨ ((entK ks f).length : Int) < no then 1 else if (((entK ks f)[(no - 1).toNat]?).map (·.1)).getD 0 = 4 then 0 else 300) else 1
def delKK (ks : List LK) (f no : Int) : List LK := repK ks f ((entK ks f).modify (no - 1).toNat delKey)
theorem GoodS.delE (h : GoodS H s id priv ks) : delE s f no = delEK ks f no := by
  have e : (((entF s.logs f)[(no - 1).toNat]?).map En.kind) = ((entK ks f)[(no - 1).toNat]?).map (·.1) := by
    rw [← h.ent, List.getElem?_map, Option.map_map]; rfl
  rw [delE_def, h.open_, h.entLen, e]
  unfold delEK
  by_cases hf : 0 ≤ f ∧ f < 16
  · rw [if_pos hf, if_pos rfl, if_pos hf]
  · rw [if_neg hf, if_neg (by decide), if_neg hf]
theorem GoodS.del (h : GoodS H s id priv ks) (hok : StOK H' s') (hR : DelR s f no s') (he : delEK ks f no = 0) : GoodS H' s' id priv (delKK ks f no) := by
  obtain ⟨h1, h2, h3⟩ := hR.1 (h.delE.trans he)
  refine ⟨hok, h1.trans h.hid, h2.trans h.hpriv, h.new, ?_, ?_⟩
  · rw [h3]; unfold delK delKK; rw [h.ent, h.keys]
  · unfold delEK at he
    split at he
    · rename_i hf
      split at he
      · cases he
      · rename_i hn
        split at he
        · rename_i h4
          have hlt : (no - 1).toNat < (entK ks f).length := by omega
          have hg := List.getElem?_eq_getElem hlt
          rw [hg] at h4
          exact h.vk.rep hf ((h.vk.ent f).del hg h4) (by rw [List.length_modify]; omega)
        · cases he
    · cases he
noncomputable def fetchEK (ks : List LK) (f fr : Int) : Int := if 0 ≤ f ∧ f < 16 then (if fr < 1 ∨ ((entK ks f).length : Int) + 1 < fr then 1 else 0) else 1
noncomputable def fetchLK (ks : List LK) (f fr : Int) : List EK := if fetchEK ks f fr = 0 then (entK ks f).drop (fr - 1).toNat else []
theorem GoodS.fetchE (h : GoodS H s id priv ks) : fetchE s f fr = fetchEK ks f fr := by
  rw [fetchE_def, h.open_, h.entLen]
  unfold fetchEK
  by_cases hf : 0 ≤ f ∧ f < 16
  · rw [if_pos hf, if_pos rfl, if_pos hf]
  · rw [if_neg hf, if_neg (by decide), if_neg hf]
theorem GoodS.fetchL (h : GoodS H s id priv ks) : (W.fetchL s f fr).map En.key = fetchLK ks f fr := by
  unfold W.fetchL fetchLK
  rw [h.fetchE]
  split
  · rw [List.map_drop, h.ent]
  · rfl
theorem GoodS.signE (h : GoodS H s id priv ks) (n : Nat) : signE s f n = if 0 ≤ f ∧ f < 16 then (if 65536 < n then 1 else 0) else 1 := by
  rw [signE_def, h.open_]
  by_cases hf : 0 ≤ f ∧ f < 16
  · rw [if_pos hf, if_pos rfl, if_pos hf]
  · rw [if_neg hf, if_neg (by decide), if_neg hf]
theorem GoodS.same {H2 : Froz} {t : Sto} {id2 priv2 : Int} {ks2 : List LK} (h : GoodS H s id priv ks) (h2 : GoodS H2 t id2 priv2 ks2) (e1 : id = id2) (e2 : priv = priv2) (e3 : ks = ks2) : sameSt s t = true :=
  @decide_eq_true _ (Classical.propDecidable _) ⟨by rw [h.hid, h2.hid, e1], by rw [h.hpriv, h2.hpriv, e2], by rw [h.keys, h2.keys, e3]⟩
theorem GoodS.new_ {H : Froz} (id priv : Int) (hn : (newP id priv).2.2 = 0) : GoodS H ⟨id, priv, none, 0, []⟩ id priv [] := ⟨⟨RdL.nil _ _ _, (fun _ h => (by cases h)), Nat.zero_le _, Nat.zero_le _⟩, rfl, rfl, hn, rfl, VK.nil⟩
/-- A head that a good store signs verifies. -/
theorem GoodS.head {ds : List Dg} (h : GoodS H s id priv ks) (hp : keyOk priv = true) (hid : 0 ≤ id ∧ id < 4) (hf : 0 ≤ f ∧ f < 16) (hl : ds.length ≤ 65536) : verS (pubP priv).1 (signH s f ds) = true := by
  have he : W.signE s f ds.length = 0 := by rw [h.signE, if_pos hf, if_neg (by omega)]
  rw [signH_def, if_pos he]
  have h1 : (headN s f ds).st = s.id := rfl
  have h2 : (headN s f ds).fo = f := rfl
  have h3 : (headN s f ds).no = (ds.length : Int) := rfl
  rw [verS_yes (by rw [h1, h.hid]; exact hid) (by rw [h2]; exact hf) (by rw [h3]; omega)]
  have := (sig_ok hp (msgN (headU s f ds)).l).1
  rw [← h.hpriv] at this
  exact h.hpriv ▸ this
end
/-! ### the chapter's examples -/
theorem keyOk_mid {x : Int} (h : 1 ≤ x ∧ x < 2305843009213688669) : keyOk x = true := by rw [keyOk_def]; exact decide_eq_true h
theorem newP_ok {id priv : Int} (h1 : 0 ≤ id ∧ id < 4) (h2 : 1 ≤ priv ∧ priv < 2305843009213688669) : newP id priv = (id, priv, 0) := by
  rw [newP_def, if_neg (by omega), keyOk_mid h2]; rfl
theorem newP41 : newP 4 1 = (0, 0, 300) := by rw [newP_def, if_pos (by decide)]
noncomputable abbrev saneD : Dg := digE 4 [97]
noncomputable abbrev ks1 : List LK := [(3, [(4, saneD, [97], false)])]
noncomputable abbrev ks2 : List LK := [(3, [(4, saneD, [], true)])]
theorem sane_put0 : putEK [] 3 4 [97] = 0 ∧ putNK [] 3 4 [97] = 1 ∧ putKK [] 3 4 [97] = ks1 := by
  have h1 : idxK (entK [] 3) (digE 4 [97]) = -1 := rfl
  have h2 : putEK [] 3 4 [97] = 0 := by unfold putEK; rw [h1]; rfl
  exact ⟨h2, by unfold putNK; rw [h2, h1]; rfl, by unfold putKK; rw [h1]; rfl⟩
theorem sane_idx (b : List UInt8) (g : Bool) : idxK (entK [(3, [(4, saneD, b, g)])] 3) (digE 4 [97]) = 0 := by
  rw [entK_cons, if_pos rfl]
  unfold idxK
  simp
theorem sane_put1 (b : List UInt8) (g : Bool) : putEK [(3, [(4, saneD, b, g)])] 3 4 [97] = 0 ∧ putNK [(3, [(4, saneD, b, g)])] 3 4 [97] = 1 ∧ putKK [(3, [(4, saneD, b, g)])] 3 4 [97] = [(3, [(4, saneD, b, g)])] := by
  have h1 := sane_idx b g
  have h2 : putEK [(3, [(4, saneD, b, g)])] 3 4 [97] = 0 := by unfold putEK; rw [h1]; rfl
  exact ⟨h2, by unfold putNK; rw [h2, h1]; rfl, by unfold putKK; rw [h1]; rfl⟩
theorem sane_bad : putEK [] 0 8 [] = 1 := by unfold putEK; rw [if_pos (by decide), if_neg (by decide)]
theorem sane_fetch : fetchEK ks1 3 1 = 0 ∧ fetchLK ks1 3 1 = [(4, saneD, [97], false)] := by
  have h : fetchEK ks1 3 1 = 0 := by unfold fetchEK; rw [if_pos (by decide), entK_cons, if_pos rfl]; rfl
  exact ⟨h, by unfold fetchLK; rw [h, entK_cons, if_pos rfl]; rfl⟩
theorem sane_del : delEK ks1 3 1 = 0 ∧ delKK ks1 3 1 = ks2 := by
  refine ⟨by unfold delEK; rw [if_pos (by decide), entK_cons, if_pos rfl]; rfl, ?_⟩
  unfold delKK
  rw [entK_cons, if_pos rfl]
  rfl
theorem sane_none : fetchEK [] 0 1 = 0 ∧ fetchLK [] 0 1 = [] := by
  have h : fetchEK [] 0 1 = 0 := rfl
  exact ⟨h, by unfold fetchLK; rw [h]; rfl⟩
theorem one_of {es : List En} {k : EK} (h : es.map En.key = [k]) : ∃ e, es = [e] ∧ e.key = k := by
  have hl : es.length = 1 := by have := congrArg List.length h; simpa using this
  obtain ⟨e, rfl⟩ := List.length_eq_one_iff.1 hl
  exact ⟨e, rfl, by simpa using h⟩
theorem sane_delno : delEK [] 0 1 = 1 := rfl
end Go.W
/-! From a row's reading to what a walk asks; from a walk's end to a row's post. -/
namespace Go.W
open Go Go.RowKit Go.ChangeShapes
/-- All that was there is frozen. -/
abbrev HW (w : World) : Froz := fun k => w.heap[k]?
theorem HW.fz (w : World) : Fz (HW w) w := fun _ _ h => h
theorem HW.cell {w : World} {b o : Nat} {v : Value} (h : w.cell? ⟨b, o, none⟩ = some v) : hcell (HW w) b o = some v := by
  unfold World.cell? at h
  unfold hcell
  cases hb : w.heap[b]? with
  | none => simp [hb] at h
  | some o' => cases o' <;> simp_all
theorem St.keptBut {W W' : World} {H' : Froz} {L : List Blk} (hS : St ⟨W, HW W, []⟩ H' L W') (may : MemPlace → Prop) : W.keptBut W' may := by
  refine ⟨hS.os, hS.output, fun i hi => ?_⟩
  have h := hS.old i hi (by simp)
  show match W.heap[i]?, W'.heap[i]? with
    | some (.cells c t fr), some (.cells c' t' fr') => t' = t ∧ fr' = fr ∧ c'.size = c.size ∧ ∀ j : Nat, ¬ may (.cell i j) → c'[j]? = c[j]?
    | some (.map es clock), some (.map es' clock') => may (.map i) ∨ (es' = es ∧ clock' = clock)
    | o, o' => o' = o
  rw [h]
  cases hw : W.heap[i]? with
  | none => rfl
  | some o => cases o <;> simp
theorem St.sameAt {W W' : World} {H' : Froz} {L : List Blk} (hS : St ⟨W, HW W, []⟩ H' L W') {p : MemPlace} (hp : p.block < W.heap.size) : W.sameAt W' p := by
  have h := hS.old p.block hp (by simp)
  cases p with
  | cell b off => show W'.cell? _ = W.cell? _; unfold World.cell?; rw [show W'.heap[b]? = W.heap[b]? from h]
  | map b => exact h
section
variable {H : Type} {enc : TypeId × Value → H} {P : Program}
theorem TrodAll.carry_ {W W' : World} {base : Nat} {sp : Nat → Bool} {held : Bool} : ∀ {ts : List TypeId} {vs : List Value} {ds : List (DataW H)} {ps : List MemPlace}, DataW.TrodAll enc P W base sp held ts vs ds ps → (∀ p ∈ ps, W.sameAt W' p) → DataW.TrodAll enc P W' base sp held ts vs ds ps
  | [], [], [], _, h, _ => h
  | _ :: _, _ :: _, _ :: _, _, ⟨p, q, ⟨n, h1⟩, h2, e⟩, hs => ⟨p, q, ⟨n, DataW.trod_carry n _ _ _ h1 (fun x hx => hs x (by rw [e]; exact List.mem_append_left _ hx))⟩, TrodAll.carry_ h2 (fun x hx => hs x (by rw [e]; exact List.mem_append_right _ hx)), e⟩
/-- A law's end: it has answered true; what was there is as it was. -/
theorem post_true {f : Func} {s : ChangeSpec} {apart handsOn : Bool} {W W' : World} {H' : Froz} {L : List Blk} {args : Array Value} {ds gs : List (DataW H)} {before : List MemPlace} {tb : TypeId}
    (K : Kids P (· < P.types.size)) (hz : ∀ t e, t < P.types.size → P.underlying t = some (.slice e) → 0 < P.cellsOf e) (hT : ∀ t ∈ f.params.toList, t < P.types.size) (ht : P.underlying tb = some .bool) (hrt : f.resultTypes = #[tb]) (hvars : s.vars = [])
    (hW : DataW.Whole enc P f.params.toList s.vars apart W args.toList ds gs before) (hfn : ∀ gs : List (DataW H), gs = [] → s.fn H (ds ++ gs) = { results := [.lit (.bool true)], args := ds })
    (hS : St ⟨W, HW W, []⟩ H' L W') : s.post enc P f apart true handsOn false W args (.bool true) W' := by
  have hlt := hW.lt
  obtain ⟨p, q, h1, h2, e, h3, h4⟩ := hW
  have hg : gs = [] ∧ q = [] := by
    rw [hvars] at h2
    cases gs with
    | nil => exact ⟨rfl, h2⟩
    | cons g t => exact absurd h2 (by intro h; cases h)
  obtain ⟨rfl, rfl⟩ := hg
  have e1 := hfn [] rfl
  refine ⟨ds, [], before, [], p, [], ⟨p, [], h1, h2, e, h3, h4⟩, ?_, ?_, ?_, hS.keptBut _, fun h => by cases h⟩
  · rw [e1, hrt]
    exact trodAll_mk1 (Go.RowKit.shut_bool ht true)
  · rw [e1]
    refine (TrodAll.carry_ (h1.respare K hz hT (spare' := fun b => decide (b < W.heap.size)) fun x hx => ?_) fun x hx => ?_)
    · exact decide_eq_true (hlt x (by rw [e]; exact List.mem_append_left _ hx))
    · exact hS.sameAt (hlt x (by rw [e]; exact List.mem_append_left _ hx))
  · rw [e1, hvars]; rfl
end
end Go.W
/-! Readings: cells out of what a row reads. -/
namespace Go.W
open Go Go.RowKit Go.ChangeShapes
section
variable {H : Type} {enc : TypeId × Value → H} {P : Program} {w : World} {base : Nat} {sp : Nat → Bool} {held : Bool} {fuel : Nat} {t e : TypeId} {cs : List Value} {x : DataW H × List MemPlace}
theorem trod_ints {k : IntKind} {n : Nat} (ht : P.underlying t = some (.array n e)) (he : P.underlying e = some (.int k)) (hc : P.cellsOf e = 1) (hct : P.cellsOf t = n) (h : DataW.trod enc P w base sp held fuel t cs = some x) :
    ∃ ns : List Int, ns.length = n ∧ cs = ns.map (Value.int k) ∧ x = (.agg (ns.map fun m => .lit (.int k m)), []) ∧ ∀ m ∈ ns, (Lit.int k m).wf = true := by
  obtain ⟨xs, m, rfl, rfl, hl, hx, hel⟩ := DataW.trod_array ht h
  rw [hct] at hl
  have key : ∀ i, i < n → ∃ a, cs[i]? = some (.int k a) ∧ xs[i]? = some (.lit (.int k a), []) ∧ (Lit.int k a).wf = true := fun i hi => by
    have h1 := hel i hi
    rw [hc, Nat.mul_one] at h1
    have h2 : xs[i]? = some (xs[i]'(by omega)) := by simp
    rw [h2] at h1
    obtain ⟨a, e1, e2, e3⟩ := DataW.trod_int he h1
    refine ⟨a, ?_, by rw [h2, e2], e3⟩
    have h3 : ((cs.drop i).take 1)[0]? = some (.int k a) := by rw [e1]; rfl
    rw [List.getElem?_take_of_lt (by decide), List.getElem?_drop, Nat.add_zero] at h3
    exact h3
  obtain ⟨f, hf⟩ : ∃ f : Nat → Int, ∀ i, i < n → cs[i]? = some (.int k (f i)) ∧ xs[i]? = some (.lit (.int k (f i)), []) ∧ (Lit.int k (f i)).wf = true := by
    refine ⟨fun i => if hi : i < n then Classical.choose (key i hi) else 0, fun i hi => ?_⟩
    simp only [hi, dif_pos]
    exact Classical.choose_spec (key i hi)
  refine ⟨(List.range n).map f, by simp, ?_, ?_, ?_⟩
  · apply List.ext_getElem?
    intro i
    by_cases hi : i < n
    · rw [(hf i hi).1]; simp [hi]
    · rw [List.getElem?_eq_none (by omega), List.getElem?_eq_none (by simp; omega)]
  · have hxs : xs = ((List.range n).map f).map fun a => (DataW.lit (.int k a), ([] : List MemPlace)) := by
      apply List.ext_getElem?
      intro i
      by_cases hi : i < n
      · rw [(hf i hi).2.1]; simp [hi]
      · rw [List.getElem?_eq_none (by omega), List.getElem?_eq_none (by simp; omega)]
    rw [hxs]
    simp only [List.map_map, List.flatMap_map, Prod.mk.injEq, DataW.agg.injEq]
    exact ⟨rfl, by simp⟩
  · intro a ha
    obtain ⟨i, hi, rfl⟩ := List.mem_map.1 ha
    exact (hf i (by simpa using hi)).2.2
theorem wf_u8 {a : Int} (h : (Lit.int .u8 a).wf = true) : 0 ≤ a ∧ a < 256 := by
  simp [Lit.wf, IntKind.min, IntKind.max, IntKind.signed, IntKind.bits] at h
  omega
theorem wf_i64 {a : Int} (h : (Lit.int .i64 a).wf = true) : -9223372036854775808 ≤ a ∧ a ≤ 9223372036854775807 := by
  simp [Lit.wf, IntKind.min, IntKind.max, IntKind.signed, IntKind.bits] at h
  omega
theorem bc_of {ns : List Int} (h : ∀ m ∈ ns, (Lit.int .u8 m).wf = true) : ns.map (Value.int .u8) = bc (ns.map fun m => UInt8.ofNat m.toNat) := by
  unfold bc
  rw [List.map_map]
  apply List.map_congr_left
  intro m hm
  have := wf_u8 (h m hm)
  simp
  omega
/-- A digest. -/
theorem trod_dg (ht : P.underlying t = some (.array 32 e)) (he : P.underlying e = some (.int .u8)) (hc : P.cellsOf e = 1) (hct : P.cellsOf t = 32) (h : DataW.trod enc P w base sp held fuel t cs = some x) : ∃ d : Dg, cs = dc d := by
  obtain ⟨ns, hl, rfl, _, hw⟩ := trod_ints ht he hc hct h
  exact ⟨⟨ns.map fun (m : Int) => UInt8.ofNat m.toNat, by simp [hl]⟩, by rw [bc_of hw]; rfl⟩
theorem seg {cs A : List Value} {i n : Nat} (h : (cs.drop i).take n = A) : cs.drop i = A ++ cs.drop (i + n) := by
  rw [← h, ← List.drop_drop, List.take_append_drop]
theorem trod_fld {fs : Array Field} (ht : P.underlying t = some (.struct fs)) (h : DataW.trod enc P w base sp held fuel t cs = some x) : cs.length = P.cellsOf t ∧ ∀ (i : Nat) (f : Field), fs[i]? = some f → ∃ m y, DataW.trod enc P w base sp held m f.type ((cs.drop f.offset).take (P.cellsOf f.type)) = some y := by
  obtain ⟨xs, n, rfl, _, hl, hxl, hf⟩ := DataW.trod_struct ht h
  refine ⟨hl, fun i f hi => ?_⟩
  have hlt : i < fs.size := (Array.getElem?_eq_some_iff.1 hi).1
  exact ⟨n, xs[i]'(by omega), by rw [hf i f hi]; simp⟩
end
end Go.W
namespace Go.W
open Go Go.RowKit
def unInt {H : Type} : DataW H → Int
  | .lit (.int _ m) => m
  | _ => 0
theorem ints_back {H : Type} {k : IntKind} {ns : List Int} {l : List (DataW H)} (h : l = ns.map fun m => .lit (.int k m)) : ns = l.map unInt := by
  subst h
  rw [List.map_map]
  have : (unInt ∘ fun m => (DataW.lit (.int k m) : DataW H)) = id := rfl
  rw [this, List.map_id]
/-- A table of ints that the row lists, as cells. -/
theorem laid_ints {P : Program} {w : World} {name : String} {g t e n : Nat} {k : IntKind} {cs : Array Value} {fuel : Nat} {l : List (DataW Unit)} {p : List MemPlace} (hg : P.globalNamed name = some g) (ht : P.underlying t = some (.array n e)) (he : P.underlying e = some (.int k)) (hc : P.cellsOf e = 1) (hct : P.cellsOf t = n)
    (hv : w.var? P name = some cs) (hd : DataW.trod (fun _ => ()) P w 0 (fun _ => true) false fuel t cs.toList = some (.agg l, p)) : ∀ j v, ((l.map unInt).map (Value.int k))[j]? = some v → hcell (HW w) g j = some v := by
  obtain ⟨ns, _, hcs, hx, _⟩ := trod_ints ht he hc hct hd
  simp only [Prod.mk.injEq, DataW.agg.injEq] at hx
  have hn := ints_back hx.1
  intro j v hj
  rw [← hn, ← hcs] at hj
  refine HW.cell ?_
  rw [World.var?_cell hg hv j]
  simpa using hj
theorem trod_hd {H : Type} {enc : TypeId × Value → H} {P : Program} {w : World} {base : Nat} {sp : Nat → Bool} {held : Bool} {fuel : Nat} {t : TypeId} {cs : List Value} {x : DataW H × List MemPlace} {fs gs : Array Field} {t3 t35 t37 e : Nat} (hfs : fs.map (fun f => (f.type, f.offset)) = #[(t3, 0), (t3, 1), (t3, 2), (t35, 3), (t37, 35)]) (hgs : gs.map (fun f => (f.type, f.offset)) = #[(t3, 0), (t3, 1)])
    (ht : P.underlying t = some (.struct fs)) (h3 : P.underlying t3 = some (.int .i64)) (h35 : P.underlying t35 = some (.array 32 e)) (he : P.underlying e = some (.int .u8)) (h37 : P.underlying t37 = some (.struct gs))
    (c : P.cellsOf t = 37) (c3 : P.cellsOf t3 = 1) (c35 : P.cellsOf t35 = 32) (ce : P.cellsOf e = 1) (c37 : P.cellsOf t37 = 2) (h : DataW.trod enc P w base sp held fuel t cs = some x) :
    ∃ hd : Hd, cs = hd.c ∧ (-9223372036854775808 ≤ hd.no ∧ hd.no ≤ 9223372036854775807) := by
  obtain ⟨hl, hf⟩ := trod_fld ht h
  have fld : ∀ (i : Nat) (ty off : Nat), (fs.map (fun f => (f.type, f.offset)))[i]? = some (ty, off) → ∃ m y, DataW.trod enc P w base sp held m ty ((cs.drop off).take (P.cellsOf ty)) = some y := fun i ty off hi => by
    rw [Array.getElem?_map] at hi
    obtain ⟨f, h1, h2⟩ := Option.map_eq_some_iff.1 hi
    have := hf i f h1
    simp only [Prod.mk.injEq] at h2
    rw [h2.1, h2.2] at this
    exact this
  rw [hfs] at fld
  obtain ⟨m0, y0, e0⟩ := fld 0 t3 0 rfl
  obtain ⟨m1, y1, e1⟩ := fld 1 t3 1 rfl
  obtain ⟨m2, y2, e2⟩ := fld 2 t3 2 rfl
  obtain ⟨m3, y3, e3⟩ := fld 3 t35 3 rfl
  obtain ⟨m4, y4, e4⟩ := fld 4 t37 35 rfl
  obtain ⟨a0, q0, _⟩ := DataW.trod_int h3 e0
  obtain ⟨a1, q1, _⟩ := DataW.trod_int h3 e1
  obtain ⟨a2, q2, _, w2⟩ := DataW.trod_int h3 e2
  obtain ⟨d, q3⟩ := trod_dg h35 he ce c35 e3
  obtain ⟨hl4, hf4⟩ := trod_fld h37 e4
  have fld4 : ∀ (i : Nat) (ty off : Nat), (gs.map (fun f => (f.type, f.offset)))[i]? = some (ty, off) → ∃ m y, DataW.trod enc P w base sp held m ty (((((cs.drop 35).take (P.cellsOf t37))).drop off).take (P.cellsOf ty)) = some y := fun i ty off hi => by
    rw [Array.getElem?_map] at hi
    obtain ⟨f, h1, h2⟩ := Option.map_eq_some_iff.1 hi
    have := hf4 i f h1
    simp only [Prod.mk.injEq] at h2
    rw [h2.1, h2.2] at this
    exact this
  rw [hgs] at fld4
  obtain ⟨m5, y5, e5⟩ := fld4 0 t3 0 rfl
  obtain ⟨m6, y6, e6⟩ := fld4 1 t3 1 rfl
  obtain ⟨R, q5, _⟩ := DataW.trod_int h3 e5
  obtain ⟨S, q6, _⟩ := DataW.trod_int h3 e6
  rw [c3] at q0 q1 q2 q5 q6
  rw [c35] at q3
  rw [c37] at q5 q6 hl4
  rw [c] at hl
  refine ⟨⟨a0, a1, a2, d, R, S⟩, ?_, wf_i64 w2⟩
  have s0 := seg q0
  have s1 := seg q1
  have s2 := seg q2
  have s3 := seg q3
  have s5 := seg q5
  have s6 := seg q6
  have hlast : ((cs.drop 35).take 2) = cs.drop 35 := List.take_of_length_le (by rw [List.length_drop, hl]; exact Nat.le_refl _)
  rw [hlast] at s5 s6
  have s7 : ((cs.drop 35).drop (1 + 1)) = [] := List.drop_of_length_le (by rw [List.length_drop, hl]; exact Nat.le_refl _)
  rw [s7] at s6
  simp only [List.drop_zero, Nat.zero_add] at s0 s1 s2 s5
  rw [s0, s1, s2]
  simp only [Nat.reduceAdd] at s3 ⊢
  rw [s3, s5, s6]
  simp [Hd.c]
end Go.W
/-! Plain: steps, played on a store. -/
namespace Go.W
open Go Go.RowKit
structure Sp where
  fo : Int
  kind : Int
  no : Int
  da : Option Addr
  dn : Nat
  dp : Nat
  bs : List UInt8
def Sp.c (x : Sp) : List Value := [.int .i64 x.fo, .int .i64 x.kind, .int .i64 x.no, .slice x.da x.dn x.dp]
def spE (xs : List Sp) : List (List Value) := xs.map Sp.c
/-- A step's data can be read. -/
def SpOK (H : Froz) (x : Sp) : Prop := RdS H x.da x.dn 1 (bc x.bs) ∧ x.dn ≤ x.dp
def SpsOK (H : Froz) (xs : List Sp) : Prop := ∀ x ∈ xs, SpOK H x
theorem SpsOK.mono {H H' : Froz} {xs : List Sp} (h : SpsOK H xs) (hle : Le H H') : SpsOK H' xs := fun x hx => ⟨(h x hx).1.mono hle, (h x hx).2⟩
theorem SpOK.len {H : Froz} {x : Sp} (h : SpOK H x) : x.dn = x.bs.length := by have := h.1.len; rw [bc_length] at this; omega
abbrev SK := Int × Int × Int × List UInt8
def Sp.key (x : Sp) : SK := (x.fo, x.kind, x.no, x.bs)
noncomputable def stepK (ks : List LK) (x : SK) : List LK := if x.2.1 = 0 then (if delEK ks x.1 x.2.2.1 = 0 then delKK ks x.1 x.2.2.1 else ks) else (if putEK ks x.1 x.2.1 x.2.2.2 = 0 then putKK ks x.1 x.2.1 x.2.2.2 else ks)
noncomputable def playKs (xs : List SK) : List LK := xs.foldl stepK []
def playOK (xs : List SK) : Bool := decide (xs.length ≤ 10 ∧ ∀ x ∈ xs, x.2.2.2.length ≤ 100)
theorem stepK_d1 {ks : List LK} {x : Sp} (h : x.kind = 0) (h2 : delEK ks x.fo x.no = 0) : stepK ks x.key = delKK ks x.fo x.no := by
  show (if x.kind = 0 then (if delEK ks x.fo x.no = 0 then delKK ks x.fo x.no else ks) else _) = _
  rw [if_pos h, if_pos h2]
theorem stepK_d0 {ks : List LK} {x : Sp} (h : x.kind = 0) (h2 : ¬ delEK ks x.fo x.no = 0) : stepK ks x.key = ks := by
  show (if x.kind = 0 then (if delEK ks x.fo x.no = 0 then delKK ks x.fo x.no else ks) else _) = _
  rw [if_pos h, if_neg h2]
theorem stepK_p1 {ks : List LK} {x : Sp} (h : ¬ x.kind = 0) (h2 : putEK ks x.fo x.kind x.bs = 0) : stepK ks x.key = putKK ks x.fo x.kind x.bs := by
  show (if x.kind = 0 then _ else (if putEK ks x.fo x.kind x.bs = 0 then putKK ks x.fo x.kind x.bs else ks)) = _
  rw [if_neg h, if_pos h2]
theorem stepK_p0 {ks : List LK} {x : Sp} (h : ¬ x.kind = 0) (h2 : ¬ putEK ks x.fo x.kind x.bs = 0) : stepK ks x.key = ks := by
  show (if x.kind = 0 then _ else (if putEK ks x.fo x.kind x.bs = 0 then putKK ks x.fo x.kind x.bs else ks)) = _
  rw [if_neg h, if_neg h2]
theorem playKs_snoc (xs : List SK) (x : SK) : playKs (xs ++ [x]) = stepK (playKs xs) x := by simp [playKs]
theorem play_take {xs : List Sp} {k : Nat} {x : Sp} (h : xs[k]? = some x) : (xs.take (k + 1)).map Sp.key = (xs.take k).map Sp.key ++ [x.key] := by
  obtain ⟨hk, he⟩ := List.getElem?_eq_some_iff.1 h
  rw [List.take_succ_eq_append_getElem hk, he, List.map_append]; rfl
theorem playOK_len {xs : List Sp} (h : 10 < xs.length) : playOK (xs.map Sp.key) = false := decide_eq_false fun q => by rw [List.length_map] at q; omega
theorem playOK_bad {xs : List Sp} {k : Nat} {x : Sp} (h : xs[k]? = some x) (hb : 100 < x.bs.length) : playOK (xs.map Sp.key) = false := decide_eq_false fun q => by
  have := q.2 x.key (List.mem_map.2 ⟨x, List.mem_of_getElem? h, rfl⟩)
  have : x.bs.length ≤ 100 := this
  omega
theorem playOK_yes {xs : List Sp} (h : xs.length ≤ 10) (hb : ∀ x ∈ xs, x.bs.length ≤ 100) : playOK (xs.map Sp.key) = true := decide_eq_true ⟨by rw [List.length_map]; exact h, fun k hk => by obtain ⟨x, hx, rfl⟩ := List.mem_map.1 hk; exact hb x hx⟩
theorem take_small {xs : List Sp} {k : Nat} {x : Sp} (h : xs[k]? = some x) (hs : ∀ y ∈ xs.take k, y.bs.length ≤ 100) (hx : x.bs.length ≤ 100) : ∀ y ∈ xs.take (k + 1), y.bs.length ≤ 100 := by
  obtain ⟨hk, he⟩ := List.getElem?_eq_some_iff.1 h
  rw [List.take_succ_eq_append_getElem hk, he]
  intro y hy
  rcases List.mem_append.1 hy with hy | hy
  · exact hs y hy
  · rw [List.mem_singleton.1 hy]; exact hx
end Go.W
/-! Plain: what is put twice. -/
namespace Go.W
open Go Go.RowKit
theorem putNK_bad {ks : List LK} {f kind : Int} {bs : List UInt8} (h : ¬ putEK ks f kind bs = 0) : putNK ks f kind bs = 0 := by unfold putNK; rw [if_neg h]
theorem putEK_one {ks : List LK} {f kind : Int} {bs : List UInt8} : putEK ks f kind bs = 1 ↔ (f < 0 ∨ 16 ≤ f ∨ kind < 1 ∨ 7 < kind) := by
  unfold putEK
  constructor
  · intro h
    split at h
    · split at h
      · split at h
        · cases h
        · split at h <;> cases h
      · omega
    · omega
  · intro h
    split
    · rw [if_neg (by omega)]
    · rfl
theorem cons_of {es : List En} {k : EK} {t : List EK} (h : es.map En.key = k :: t) : ∃ z zs, es = z :: zs ∧ z.key = k := by
  cases es with
  | nil => cases h
  | cons z zs => exact ⟨z, zs, rfl, (List.cons.inj h).1⟩
theorem putEK_zero {ks : List LK} {f kind : Int} {bs : List UInt8} (h : putEK ks f kind bs = 0) : (0 ≤ f ∧ f < 16) ∧ (1 ≤ kind ∧ kind ≤ 7) ∧ (0 ≤ idxK (entK ks f) (digE kind bs) ∨ ¬ (entK ks f).length = 65536) := by
  unfold putEK at h
  split at h
  · rename_i h1
    split at h
    · rename_i h2
      refine ⟨h1, h2, ?_⟩
      split at h
      · rename_i h3; exact .inl h3
      · split at h
        · cases h
        · rename_i h4; exact .inr h4
    · cases h
  · cases h
theorem once {ks : List LK} {f kind : Int} {bs : List UInt8} (hv : VK ks) (h : putEK ks f kind bs = 0) :
    putEK (putKK ks f kind bs) f kind bs = 0 ∧ putNK (putKK ks f kind bs) f kind bs = putNK ks f kind bs ∧ putKK (putKK ks f kind bs) f kind bs = putKK ks f kind bs ∧ fetchEK (putKK ks f kind bs) f (putNK ks f kind bs) = 0 ∧
    ∃ e t, fetchLK (putKK ks f kind bs) f (putNK ks f kind bs) = e :: t ∧ e.2.1 = digE kind bs ∧ okK e := by
  obtain ⟨hf, hk, hl⟩ := putEK_zero h
  obtain ⟨d, hd⟩ : ∃ d, d = digE kind bs := ⟨_, rfl⟩
  -- where the digest stands afterwards
  have key : ∃ (i : Nat) (e : EK), idxK (entK (putKK ks f kind bs) f) d = i ∧ (entK (putKK ks f kind bs) f)[i]? = some e ∧ e.2.1 = d ∧ okK e ∧ putNK ks f kind bs = (i : Int) + 1 := by
    unfold putNK putKK
    rw [if_pos h, ← hd]
    by_cases hi : 0 ≤ idxK (entK ks f) d
    · rw [if_pos hi, if_pos hi]
      obtain ⟨i, e, h1, h2, h3⟩ := idxK_yes hi
      exact ⟨i, e, h1, h2, h3, (hv.ent f).ok e (List.mem_of_getElem? h2), by rw [h1]⟩
    · rw [if_neg hi, if_neg hi]
      refine ⟨(entK ks f).length, (kind, d, bs, false), ?_, ?_, rfl, ?_, rfl⟩
      · rw [entK_rep]; exact idxK_snoc hi rfl
      · rw [entK_rep]; simp
      · exact .inr ⟨rfl, hk, hd⟩
  obtain ⟨i, e, k1, k2, k3, k4, k5⟩ := key
  rw [hd] at k1 k3
  have hi0 : 0 ≤ idxK (entK (putKK ks f kind bs) f) (digE kind bs) := by rw [k1]; omega
  have hil := (List.getElem?_eq_some_iff.1 k2).1
  have p1 : putEK (putKK ks f kind bs) f kind bs = 0 := by
    generalize putKK ks f kind bs = ks2 at *
    unfold putEK
    rw [if_pos hf, if_pos hk, if_pos hi0]
  have p4 : fetchEK (putKK ks f kind bs) f (putNK ks f kind bs) = 0 := by
    rw [k5]
    generalize putKK ks f kind bs = ks2 at *
    unfold fetchEK
    rw [if_pos hf, if_neg (by omega)]
  refine ⟨p1, ?_, ?_, p4, e, (entK (putKK ks f kind bs) f).drop (i + 1), ?_, k3, k4⟩
  · rw [k5]
    generalize putKK ks f kind bs = ks2 at *
    unfold putNK
    rw [if_pos p1, if_pos hi0, k1]
  · generalize putKK ks f kind bs = ks2 at *
    unfold putKK
    rw [if_pos hi0]
  · unfold fetchLK
    rw [p4, if_pos rfl, k5, show ((i : Int) + 1 - 1).toNat = i by omega, List.drop_eq_getElem_cons hil]
    congr 1
    rw [List.getElem?_eq_getElem hil] at k2
    exact Option.some.inj k2
end Go.W
/-! Readings: slices. -/
namespace Go.W
open Go Go.RowKit Go.ChangeShapes
section
variable {H : Type} {enc : TypeId × Value → H} {P : Program} {w : World} {sp : Nat → Bool} {held : Bool} {fuel : Nat} {t e : TypeId} {cs : List Value} {x : DataW H × List MemPlace}
theorem cell_spot {w : World} {a : Addr} {v : Value} (h : w.cell? a = some v) : a.spot = none := by
  unfold World.cell? at h
  cases hs : a.spot with
  | none => rfl
  | some s =>
    exfalso
    rw [hs] at h
    split at h
    · simp at h
    · cases h
theorem flat_at {k : Nat} {els : List (List Value)} (hk : 0 < k) (he : ∀ e ∈ els, e.length = k) {j : Nat} {v : Value} (h : els.flatten[j]? = some v) : ∃ e, els[j / k]? = some e ∧ e[j % k]? = some v := by
  have hj := (List.getElem?_eq_some_iff.1 h).1
  rw [flatten_len he] at hj
  have hi : j / k < els.length := Nat.div_lt_of_lt_mul (by rw [Nat.mul_comm]; exact hj)
  have hr : j % k < k := Nat.mod_lt _ hk
  have hel := he els[j / k] (List.getElem_mem hi)
  have h1 : els[j / k]? = some els[j / k] := List.getElem?_eq_getElem hi
  have h2 : (els[j / k])[j % k]? = some ((els[j / k])[j % k]'(by omega)) := List.getElem?_eq_getElem _
  have h3 := ldv_flatten (agg := false) (sz := 1) (off := j % k) (i := j / k) he h1 (by omega) (by decide) (show ldv false 1 els[j / k] (j % k) = some _ from h2)
  simp only [ldv, cond_false] at h3
  rw [Nat.mul_comm, Nat.div_add_mod] at h3
  rw [h] at h3
  exact ⟨_, h1, by rw [h2, ← Option.some.inj h3]⟩
theorem trod_sl {α : Type} (ce : α → List Value) (Q : α → Prop) (hce : ∀ a, (ce a).length = P.cellsOf e) (hpos : 0 < P.cellsOf e) (ht : P.underlying t = some (.slice e)) (hel : ∀ fuel cs x, DataW.trod enc P w 0 sp held fuel e cs = some x → ∃ a : α, cs = ce a ∧ Q a)
    (h : DataW.trod enc P w 0 sp held fuel t cs = some x) : ∃ (a : Option Addr) (xs : List α) (cap : Nat), cs = [.slice a xs.length cap] ∧ xs.length ≤ cap ∧ cap ≤ maxLen ∧ RdL (HW w) a (P.cellsOf e) (xs.map ce) ∧ ∀ y ∈ xs, Q y := by
  rcases Go.Deep.open_slice ht h with ⟨rfl, _⟩ | ⟨a, len, cap, m, n, D, Pl, rfl, _, hl, hm, hmm, _, hx⟩
  · exact ⟨none, [], 0, rfl, Nat.le_refl _, Nat.zero_le _, RdL.nil _ _ _, fun _ h => by cases h⟩
  have hlm : len ≤ m := by rw [hmm]; split <;> omega
  have key : ∀ i, i < len → ∃ y : α, Q y ∧ ∀ r v, (ce y)[r]? = some v → w.cell? (a.add (i * P.cellsOf e + r)) = some v := fun i hi => by
    obtain ⟨cs', h1, h2⟩ := hx i (by omega)
    obtain ⟨y, rfl, hq⟩ := hel _ _ _ h2
    obtain ⟨_, h3, h4⟩ := World.cells?_some h1
    refine ⟨y, hq, fun r v hv => ?_⟩
    have hr := (List.getElem?_eq_some_iff.1 hv).1
    rw [← Go.Deep.add_add, h4 r (by rw [hce] at hr; exact hr), hv]
  rcases Nat.eq_zero_or_pos len with rfl | hlen
  · exact ⟨some a, [], cap, rfl, Nat.zero_le _, hm, RdL.nil _ _ _, fun _ h => by cases h⟩
  obtain ⟨y0, _, _⟩ := key 0 hlen
  have : Nonempty α := ⟨y0⟩
  obtain ⟨f, hf⟩ : ∃ f : Nat → α, ∀ i, i < len → Q (f i) ∧ ∀ r v, (ce (f i))[r]? = some v → w.cell? (a.add (i * P.cellsOf e + r)) = some v := by
    refine ⟨fun i => if hi : i < len then Classical.choose (key i hi) else y0, fun i hi => ?_⟩
    simp only [hi, dif_pos]
    exact Classical.choose_spec (key i hi)
  obtain ⟨xs, hxs⟩ : ∃ xs, xs = (List.range len).map f := ⟨_, rfl⟩
  have hxl : xs.length = len := by rw [hxs]; simp
  have hxi : ∀ i, i < len → (xs.map ce)[i]? = some (ce (f i)) := fun i hi => by rw [hxs]; simp [hi]
  have heach : ∀ y ∈ xs.map ce, y.length = P.cellsOf e := fun y hy => by obtain ⟨z, _, rfl⟩ := List.mem_map.1 hy; exact hce z
  refine ⟨some a, xs, cap, by rw [hxl], by omega, hm, ⟨⟨?_, fun _ => ?_⟩, heach⟩, fun y hy => ?_⟩
  · exact flatten_len heach
  · have hspot : a.spot = none := by
      have hc0 := (hf 0 hlen).2 0 ((ce (f 0))[0]'(by rw [hce]; exact hpos)) (List.getElem?_eq_getElem _)
      have := cell_spot hc0
      simpa [Addr.add] using this
    obtain ⟨b, o, s⟩ := a
    simp only at hspot
    subst hspot
    refine ⟨b, o, rfl, fun j v hv => ?_⟩
    obtain ⟨el, h1, h2⟩ := flat_at hpos heach hv
    have hji : j / P.cellsOf e < len := by have := (List.getElem?_eq_some_iff.1 h1).1; rw [List.length_map, hxl] at this; exact this
    rw [hxi _ hji] at h1
    obtain rfl := Option.some.inj h1
    have := (hf _ hji).2 _ v h2
    rw [Nat.mul_comm, Nat.div_add_mod, Addr.add_lit] at this
    exact HW.cell this
  · rw [hxs] at hy
    obtain ⟨i, hi, rfl⟩ := List.mem_map.1 hy
    exact (hf i (by simpa using hi)).1
theorem flat1 : ∀ xs : List UInt8, (xs.map fun b : UInt8 => [Value.int .u8 (b.toNat : Int)]).flatten = bc xs
  | [] => rfl
  | b :: t => by rw [List.map_cons, List.flatten_cons, flat1 t]; rfl
/-- Bytes. -/
theorem trod_bytes (ht : P.underlying t = some (.slice e)) (he : P.underlying e = some (.int .u8)) (hc : P.cellsOf e = 1) (h : DataW.trod enc P w 0 sp held fuel t cs = some x) :
    ∃ (a : Option Addr) (bs : List UInt8) (n cap : Nat), cs = [.slice a n cap] ∧ n ≤ cap ∧ cap ≤ maxLen ∧ RdS (HW w) a n 1 (bc bs) := by
  obtain ⟨a, xs, cap, rfl, h1, h2, h3, _⟩ := trod_sl (α := UInt8) (fun b => [Value.int .u8 (b.toNat : Int)]) (fun _ => True) (fun _ => hc.symm) (by rw [hc]; decide) ht (fun fuel cs x h => by
    obtain ⟨m, rfl, _, hw⟩ := DataW.trod_int he h
    have := wf_u8 hw
    exact ⟨UInt8.ofNat m.toNat, by simp; omega, trivial⟩) h
  refine ⟨a, xs, _, cap, rfl, h1, h2, ?_⟩
  have h4 := h3.rd
  rw [hc, List.length_map] at h4
  have e1 : (xs.map fun b : UInt8 => [Value.int .u8 (b.toNat : Int)]).flatten = bc xs := by
    exact flat1 xs
  rwa [e1] at h4
/-- Steps. -/
theorem trod_steps {fs : Array Field} {t3 tb te : Nat} (hfs : fs.map (fun f => (f.type, f.offset)) = #[(t3, 0), (t3, 1), (t3, 2), (tb, 3)]) (ht : P.underlying t = some (.slice e)) (he : P.underlying e = some (.struct fs)) (h3 : P.underlying t3 = some (.int .i64)) (hb : P.underlying tb = some (.slice te)) (hte : P.underlying te = some (.int .u8))
    (c : P.cellsOf e = 4) (c3 : P.cellsOf t3 = 1) (cb : P.cellsOf tb = 1) (cte : P.cellsOf te = 1) (h : DataW.trod enc P w 0 sp held fuel t cs = some x) :
    ∃ (a : Option Addr) (xs : List Sp) (cap : Nat), cs = [.slice a xs.length cap] ∧ xs.length ≤ cap ∧ cap ≤ maxLen ∧ RdL (HW w) a 4 (spE xs) ∧ SpsOK (HW w) xs := by
  obtain ⟨a, xs, cap, rfl, h1, h2, h4, h5⟩ := trod_sl (α := Sp) Sp.c (SpOK (HW w)) (fun _ => c.symm) (by rw [c]; decide) ht (fun fuel cs x h => by
    obtain ⟨hl, hf⟩ := trod_fld he h
    have fld : ∀ (i : Nat) (ty off : Nat), (fs.map (fun f => (f.type, f.offset)))[i]? = some (ty, off) → ∃ m y, DataW.trod enc P w 0 sp held m ty ((cs.drop off).take (P.cellsOf ty)) = some y := fun i ty off hi => by
      rw [Array.getElem?_map] at hi
      obtain ⟨f, h1, h2⟩ := Option.map_eq_some_iff.1 hi
      have := hf i f h1
      simp only [Prod.mk.injEq] at h2
      rw [h2.1, h2.2] at this
      exact this
    rw [hfs] at fld
    obtain ⟨m0, y0, e0⟩ := fld 0 t3 0 rfl
    obtain ⟨m1, y1, e1⟩ := fld 1 t3 1 rfl
    obtain ⟨m2, y2, e2⟩ := fld 2 t3 2 rfl
    obtain ⟨m3, y3, e3⟩ := fld 3 tb 3 rfl
    obtain ⟨a0, q0, _⟩ := DataW.trod_int h3 e0
    obtain ⟨a1, q1, _⟩ := DataW.trod_int h3 e1
    obtain ⟨a2, q2, _⟩ := DataW.trod_int h3 e2
    obtain ⟨da, bs, dn, dp, q3, r1, _, r3⟩ := trod_bytes hb hte cte e3
    rw [c3] at q0 q1 q2
    rw [cb] at q3
    rw [c] at hl
    refine ⟨⟨a0, a1, a2, da, dn, dp, bs⟩, ?_, r3, r1⟩
    have s0 := seg q0
    have s1 := seg q1
    have s2 := seg q2
    have s3 := seg q3
    have s4 : cs.drop (3 + 1) = [] := List.drop_of_length_le (by rw [hl]; exact Nat.le_refl _)
    rw [s4] at s3
    simp only [List.drop_zero, Nat.zero_add] at s0 s1 s2
    rw [s0, s1, s2]
    simp only [Nat.reduceAdd] at s3 ⊢
    rw [s3]
    rfl) h
  exact ⟨a, xs, cap, rfl, h1, h2, by rw [c] at h4; exact h4, h5⟩
end
theorem one_slice {v : Value} {a a' : Option Addr} {n c n' c' : Nat} (hv : v = .slice a' n' c') (h : v.cells.toList = [.slice a n c]) : v = .slice a n c := by
  subst hv
  simpa [Value.cells] using h
end Go.W
namespace Go.Proofs.YtneokajhmonpaaaDoor
open Go Go.RowKit Go.W
set_option maxRecDepth 10000
namespace T15
theorem bt5 : byS Tryd.prog 5 = some 1 := by kernel_rfl
theorem en95 : enS Tryd.prog 95 = true := by kernel_rfl
theorem en96 : enS Tryd.prog 96 = true := by kernel_rfl
theorem fl67_1 : flS Tryd.prog 67 1 = some (1, 1) := by kernel_rfl
theorem fl67_2 : flS Tryd.prog 67 2 = some (2, 1) := by kernel_rfl
theorem ty3 : tyS Tryd.prog 3 = some (false, 1) := by kernel_rfl
theorem ty5 : tyS Tryd.prog 5 = some (false, 1) := by kernel_rfl
theorem ty9 : tyS Tryd.prog 9 = some (false, 1) := by kernel_rfl
theorem zr5 : zrS Tryd.prog 5 = some [.int .u8 0] := by kernel_rfl
theorem mo : Tryd.prog.follows .mixedOrders = true := by kernel_rfl
end T15
open T15

theorem unsigned_c (n : Int) (w : World) (H : Froz) (hz : Fz H w) : CallsR Tryd.prog 96 [.int .i64 n] w fun v w' => v = .int .u64 (unsN n : Int) ∧ St ⟨w, H, []⟩ H [] w' := by
  refine calls_start Tryd.func96 rfl Tryd.ntmps96 rfl (fun a hF => ?_)
  have hS := St.start w H hz
  have hS0 := hS
  refine c_seq (fun K1 hK1 => ?_)
  refine c_reg ?_
  refine n_q hF hS (q_assign rfl) rfl (fun a hF => ?_)
  refine hK1 _ _ ?_
  refine c_seq (fun K2 hK2 => ?_)
  refine c_reg ?_
  refine n_q hF hS (q_move rfl) rfl (fun a hF => ?_)
  refine n_q hF hS (q_cv (r := (u64N n : Int)) Tryd.underlying3 Tryd.underlying160 rfl (wrap_u64N _)) rfl (fun a hF => ?_)
  refine n_q hF hS (q_shl (m := 18446744073709551616) (s := 1) rfl rfl rfl rfl (by decide)) rfl (fun a hF => ?_)
  refine n_q hF hS (q_move rfl) rfl (fun a hF => ?_)
  refine n_q hF hS (q_shrI (s := 63) rfl rfl (by decide)) rfl (fun a hF => ?_)
  refine n_q hF hS (q_cv (r := (u64N (n / 2 ^ 63) : Int)) Tryd.underlying3 Tryd.underlying160 rfl (wrap_u64N _)) rfl (fun a hF => ?_)
  refine n_q hF hS (q_xor (m := 18446744073709551616) rfl rfl rfl rfl (Nat.mod_lt _ (by decide)) (u64N_lt _)) rfl (fun a hF => ?_)
  refine n_q hF hS (q_assign rfl) rfl (fun a hF => ?_)
  refine hK2 _ _ ?_
  refine c_ret ?_
  repeat (first | refine ret_then ?_ | refine ret_blk ?_)
  refine c_ret' (P := Tryd.prog) (fn := Tryd.f96) rfl hF hS (.tmp rfl .nil) ⟨_, rfl, ?_⟩
  exact ⟨rfl, hS.same⟩

theorem numeral_c (ad : Option Addr) (k cp : Nat) (xs : List UInt8) (Lx : List Blk) (ho : OwS 5 1 (.slice ad k cp) k (bc xs) Lx) (hk : k ≤ 4000000) (u : Nat) (hu : u < 18446744073709551616) (w : World) (H : Froz) (hh : Hand w H Lx) :
    CallsR Tryd.prog 95 [.slice ad k cp, .int .u64 (u : Int)] w fun v w' => ∃ ad' cp' Lx', v = .slice ad' (xs ++ numL u).length cp' ∧ OwS 5 1 (.slice ad' (xs ++ numL u).length cp') (xs ++ numL u).length (bc (xs ++ numL u)) Lx' ∧ St ⟨w, H, Lx.map (·.b)⟩ H Lx' w' := by
  refine calls_start Tryd.func95 rfl Tryd.ntmps95 rfl (fun a hF => ?_)
  have hS := St.startG hh
  refine c_seq (fun K1 hK1 => ?_)
  refine c_reg ?_
  refine n_q hF hS (q_assign rfl) rfl (fun a hF => ?_)
  refine hK1 _ _ ?_
  refine c_seq (fun K2 hK2 => ?_)
  refine c_block ?_
  refine c_loopL hF [0, 1, 5, 6, 7, 8, 9, 10, 11, 12, 13, 14]
    (fun g : Nat × Nat × Option Addr × Nat × Nat × List UInt8 × List Blk => [(0, .slice g.2.2.1 g.2.2.2.2.1 g.2.2.2.1), (1, .int .u64 (g.2.1 : Int))])
    (fun g => g.2.2.2.2.2.2 ++ [])
    (fun g _ => OwS 5 1 (.slice g.2.2.1 g.2.2.2.2.1 g.2.2.2.1) g.2.2.2.2.1 (bc g.2.2.2.2.2.1) g.2.2.2.2.2.2 ∧ g.2.1 < 128 ^ (g.1 + 1) ∧ g.2.1 < 18446744073709551616 ∧ g.1 ≤ 9 ∧ g.2.2.2.2.2.1 ++ numB g.1 g.2.1 = xs ++ numL u ∧ g.2.2.2.2.1 + g.1 = k + 9)
    (fun g => g.1) ((9, u, ad, cp, k, xs, Lx)) ⟨rfl, rfl, trivial⟩ ((by rw [List.append_nil]; exact hS)) (⟨ho, Nat.lt_trans hu (show 18446744073709551616 < 128 ^ (9 + 1) by decide), hu, Nat.le_refl _, rfl, rfl⟩) ?_
  clear hF hS
  intro g a w H hle hF hS hJ
  have hl0 := Le.refl H
  obtain ⟨f, u2, ad2, cp2, k2, ys, Ly⟩ := g
  obtain ⟨hO, hJu, hJ64, hJf, hJe, hJk⟩ := hJ
  try dsimp only at hF hS hO hJu hJ64 hJf hJe hJk
  refine c_seq (fun K3 hK3 => ?_)
  refine c_seq (fun K4 hK4 => ?_)
  refine c_reg ?_
  refine n_q hF hS (q_move rfl) rfl (fun a hF => ?_)
  refine n_q hF hS (q_geq rfl rfl) rfl (fun a hF => ?_)
  refine hK4 _ _ ?_
  refine spd hF (s := 6) rfl (fun hc6 hF => ?_) (fun hc6 hF => ?_)
  · refine c_true hF rfl ?_
    refine wp_skip ?_
    refine hK3 _ _ ?_
    refine c_seq (fun K5 hK5 => ?_)
    refine c_block ?_
    refine c_reg ?_
    have hu2 : 128 ≤ u2 := by omega
    obtain ⟨f2, rfl⟩ : ∃ q, f = q + 1 := ⟨f - 1, by rcases f with _ | f; (simp at hJu; omega); rfl⟩
    rw [numB_big hu2] at hJe
    refine n_q hF hS (q_move rfl) rfl (fun a hF => ?_)
    refine n_q hF hS (q_move rfl) rfl (fun a hF => ?_)
    refine n_q hF hS (q_cv8 Tryd.underlying160 Tryd.underlying5 rfl) rfl (fun a hF => ?_)
    refine n_q hF hS (q_or (m := 256) rfl rfl rfl rfl (Nat.mod_lt _ (by decide)) (by decide)) rfl (fun a hF => ?_)
    refine n_l rfl (fun K6 hK6 => l_buildF (els := [[_]]) Tryd.underlying46 ty5 zr5 hF hS rfl rfl rfl (by simp [Value.cells, dc_length, List.length_replicate, List.length_cons, List.length_nil, List.length_append]) rfl rfl rfl (fun a w b1 hF hle hS r3_4 => ?_))
    replace hl0 := hl0.mono hle
    refine hK6 _ _ ?_
    refine n_l rfl (fun K7 hK7 => l_append (L := []) Tryd.underlying46 ty5 zr5 bt5 hF hS rfl rfl (hO) (.slice Tryd.underlying46 r3_4.rd rfl) (by omega) (by simp only [maxLen]; omega) rfl rfl (fun a w c3_5 ad3_5 Lx3_5 ho3_5 hF hS => hK7 _ _ ?_))
    rw [show [[Value.int .u8 (((u2 % 256) ||| 128 : Nat) : Int)]].flatten = bc [UInt8.ofNat ((u2 % 256) ||| 128)] by simp [bc], ← bc_append] at ho3_5
    refine n_q hF hS (q_assign rfl) rfl (fun a hF => ?_)
    refine hK5 _ _ ?_
    refine c_reg ?_
    refine n_q hF hS (q_move rfl) rfl (fun a hF => ?_)
    refine n_q hF hS (q_shrC (m := 128) rfl rfl (by decide) rfl) rfl (fun a hF => ?_)
    refine n_q hF hS (q_assign rfl) rfl (fun a hF => ?_)
    exact ⟨(f2, u2 / 128, ad3_5, c3_5, k2 + 1, ys ++ [UInt8.ofNat ((u2 % 256) ||| 128)], Lx3_5), _, (by show f2 < f2 + 1; omega), hl0, hF.back ⟨rfl, rfl, trivial⟩ rfl (by repeat first | exact Ext.refl _ _ | refine Ext.rem' rfl ?_ | refine Ext.push rfl ?_), hS.lose (.refl _), ⟨ho3_5, pow_step hJu, by show u2 / 128 < _; omega, by show f2 ≤ 9; omega, by show _ ++ _ = _; rw [List.append_assoc]; exact hJe, by show k2 + 1 + f2 = _; omega⟩⟩
  · refine c_false hF rfl ?_
    refine c_exit ?_
    refine hK2 _ _ ?_
    refine c_seq (fun K8 hK8 => ?_)
    refine c_reg ?_
    have hu2 : u2 < 128 := by omega
    rw [numB_small hu2] at hJe
    refine n_q hF hS (q_move rfl) rfl (fun a hF => ?_)
    refine n_q hF hS (q_move rfl) rfl (fun a hF => ?_)
    refine n_q hF hS (q_cv8 Tryd.underlying160 Tryd.underlying5 rfl) rfl (fun a hF => ?_)
    refine n_l rfl (fun K9 hK9 => l_buildF (els := [[_]]) Tryd.underlying46 ty5 zr5 hF hS rfl rfl rfl (by simp [Value.cells, dc_length, List.length_replicate, List.length_cons, List.length_nil, List.length_append]) rfl rfl rfl (fun a w b2 hF hle hS r4_3 => ?_))
    refine hK9 _ _ ?_
    refine n_l rfl (fun K10 hK10 => l_append (L := []) Tryd.underlying46 ty5 zr5 bt5 hF hS rfl rfl (hO) (.slice Tryd.underlying46 r4_3.rd rfl) (by omega) (by simp only [maxLen]; omega) rfl rfl (fun a w c4_4 ad4_4 Lx4_4 ho4_4 hF hS => hK10 _ _ ?_))
    rw [show [[Value.int .u8 ((u2 % 256 : Nat) : Int)]].flatten = bc [UInt8.ofNat u2] by simp [bc], ← bc_append, hJe] at ho4_4
    refine n_q hF hS (q_assign rfl) rfl (fun a hF => ?_)
    refine hK8 _ _ ?_
    refine c_ret ?_
    repeat (first | refine ret_then ?_ | refine ret_blk ?_)
    refine c_ret' (P := Tryd.prog) (fn := Tryd.f95) rfl hF hS (.tmp rfl .nil) ⟨_, rfl, ?_⟩
    have hl := ho4_4.sz1
    rw [bc_length] at hl
    rw [hl] at ho4_4
    refine ⟨ad4_4, c4_4, Lx4_4, ?_, ho4_4, ?_⟩
    · show Value.slice _ _ _ = _
      rw [hl]
    · rw [List.append_nil] at hS
      exact hS.down

theorem write1_c (ad : Option Addr) (k cp : Nat) (xs : List UInt8) (Lx : List Blk) (ho : OwS 5 1 (.slice ad k cp) k (bc xs) Lx) (hk : k ≤ 3000000) (v0 v2 v3 : Value) (n : Int) (w : World) (H : Froz) (hh : Hand w H Lx) :
    CallsR Tryd.prog 94 [.slice ad k cp, .agg #[v0, .int .i64 n, v2, v3]] w fun v w' => ∃ ad' cp' Lx', v = .slice ad' (xs ++ encI n).length cp' ∧ OwS 5 1 (.slice ad' (xs ++ encI n).length cp') (xs ++ encI n).length (bc (xs ++ encI n)) Lx' ∧ St ⟨w, H, Lx.map (·.b)⟩ H Lx' w' := by
  refine calls_start Tryd.func94 rfl Tryd.ntmps94 rfl (fun a hF => ?_)
  have hS := St.startG hh
  refine c_seq (fun K1 hK1 => ?_)
  refine c_reg ?_
  refine n_l rfl (fun K2 hK2 => l_boxA hF hS rfl rfl (fun a w b1 hF hS => hK2 _ _ ?_))
  refine n_q hF hS (q_assign rfl) rfl (fun a hF => ?_)
  refine hK1 _ _ ?_
  refine c_seq (fun K3 hK3 => ?_)
  obtain ⟨H_hbx, hH_hbx, hle_hbx, hS_hbx⟩ := hS.freeze' (i := 0) rfl
  replace hS := hS_hbx
  have hbx : HR H_hbx b1 [v0, .int .i64 n, v2, v3] := by rw [hH_hbx]; exact frz_hr
  replace hS := St.nilR (L := Lx) hS
  refine r_start (fun _ => []) [] mo hS (fun w hS => ?_)
  refine r_q (i := 0) rfl (by kernel_rfl) (by kernel_rfl) rfl (by kernel_rfl) (fun _ _ _ _ h => h) hF (hS.lose (List.nil_sublist _)) (q_move rfl) rfl (fun a hF => ?_)
  refine r_q (i := 3) rfl (by kernel_rfl) (by kernel_rfl) rfl (by kernel_rfl) (fun _ _ _ _ h => h) hF (hS.lose (List.nil_sublist _)) (q_fieldAddr fl67_1 (by decide) rfl) rfl (fun a hF => ?_)
  refine r_q (i := 4) rfl (by kernel_rfl) (by kernel_rfl) rfl (by kernel_rfl) (fun _ _ _ _ h => h) hF (hS.lose (List.nil_sublist _)) (q_loadG (o := 1) (v := .int .i64 n) ty3 rfl hbx.h (Nat.le_of_ble_eq_true rfl) rfl rfl) rfl (fun a hF => ?_)
  refine r_one (i := 1) (by kernel_rfl) ?_
  have hsub := hS.sub
  refine r_li rfl rfl (fun K4 hK4 => l_buildF (els := [[_]]) Tryd.underlying46 ty5 zr5 hF hS rfl rfl rfl (by simp [Value.cells, dc_length, List.length_replicate, List.length_cons, List.length_nil, List.length_append]) rfl rfl rfl (fun a w b2 hF hle hS r1_1 => ?_))
  replace hbx := hbx.mono hle
  refine hK4 _ _ _ (hS.lose (List.nil_sublist _)) (fun _ h => h.forget hsub hle) ?_
  refine r_one (i := 2) (by kernel_rfl) ?_
  refine r_li rfl rfl (fun K5 hK5 => l_append (L := []) Tryd.underlying46 ty5 zr5 bt5 hF hS rfl rfl (ho) (.slice Tryd.underlying46 r1_1.rd rfl) (by omega) (by simp only [maxLen]; omega) rfl rfl (fun a w c1_2 ad1_2 Lx1_2 ho1_2 hF hS => hK5 _ _ _ (hS.lose (List.nil_sublist _)) (fun _ h => h) ?_))
  rw [show [[Value.int .u8 1]].flatten = bc [1] from rfl, ← bc_append] at ho1_2
  refine r_one (i := 5) (by kernel_rfl) ?_
  have hsub := hS.sub
  refine r_li rfl rfl (fun K6 hK6 => l_call en96 hF rfl rfl (unsigned_c n _ _ hS.fz) (fun v6 w hR a hF => ?_))
  obtain ⟨rfl, hc⟩ := hR
  replace hS := hS.call0 hc
  refine hK6 _ _ _ (hS.lose (List.nil_sublist _)) (fun _ h => h) ?_
  refine r_one (i := 6) (by kernel_rfl) ?_
  have hsub := hS.sub
  refine r_li rfl rfl (fun K7 hK7 => l_call en95 hF rfl rfl (numeral_c _ _ _ _ _ ho1_2 (by omega) (unsN n) (unsN_lt n) _ _ hS.hand) (fun v7 w hR a hF => ?_))
  obtain ⟨adn, cpn, Lxn, rfl, hon, hc⟩ := hR
  replace hS : St _ _ (Lxn ++ []) _ := hS.callG (L := []) hc
  refine hK7 _ _ _ (hS.lose (List.nil_sublist _)) (fun _ h => h) ?_
  refine r_q (i := 7) rfl (by kernel_rfl) (by kernel_rfl) rfl (by kernel_rfl) (fun _ _ _ _ h => h) hF (hS.lose (List.nil_sublist _)) (q_assign rfl) rfl (fun a hF => ?_)
  refine r_done (by kernel_rfl) ?_
  refine hK3 _ _ ?_
  refine c_ret ?_
  repeat (first | refine ret_then ?_ | refine ret_blk ?_)
  refine c_ret' (P := Tryd.prog) (fn := Tryd.f94) rfl hF hS (.tmp rfl .nil) ⟨_, rfl, ?_⟩
  rw [List.append_assoc] at hon
  refine ⟨adn, cpn, Lxn, ?_, hon, ?_⟩
  · show Value.slice _ _ _ = _
    rw [List.append_assoc]; rfl
  · rw [List.append_nil] at hS
    exact hS.down

theorem write2_c (ad : Option Addr) (k cp : Nat) (xs : List UInt8) (Lx : List Blk) (ho : OwS 5 1 (.slice ad k cp) k (bc xs) Lx) (hk : k ≤ 3000000) (v0 v1 v3 : Value) (s : ByteArray) (hs : s.size ≤ 100000) (w : World) (H : Froz) (hh : Hand w H Lx) :
    CallsR Tryd.prog 97 [.slice ad k cp, .agg #[v0, v1, .string s, v3]] w fun v w' => ∃ ad' cp' Lx', v = .slice ad' (xs ++ encT s.data.toList).length cp' ∧ OwS 5 1 (.slice ad' (xs ++ encT s.data.toList).length cp') (xs ++ encT s.data.toList).length (bc (xs ++ encT s.data.toList)) Lx' ∧ St ⟨w, H, Lx.map (·.b)⟩ H Lx' w' := by
  refine calls_start Tryd.func97 rfl Tryd.ntmps97 rfl (fun a hF => ?_)
  have hS := St.startG hh
  have hsz : s.size = s.data.toList.length := by simp
  have hnl := numL_len s.size
  refine c_seq (fun K1 hK1 => ?_)
  refine c_reg ?_
  refine n_l rfl (fun K2 hK2 => l_boxA hF hS rfl rfl (fun a w b1 hF hS => hK2 _ _ ?_))
  refine n_q hF hS (q_assign rfl) rfl (fun a hF => ?_)
  refine hK1 _ _ ?_
  refine c_seq (fun K3 hK3 => ?_)
  obtain ⟨H_hbx, hH_hbx, hle_hbx, hS_hbx⟩ := hS.freeze' (i := 0) rfl
  replace hS := hS_hbx
  have hbx : HR H_hbx b1 [v0, v1, .string s, v3] := by rw [hH_hbx]; exact frz_hr
  replace hS := St.nilR (L := Lx) hS
  refine r_start (fun _ => []) [] mo hS (fun w hS => ?_)
  refine r_q (i := 0) rfl (by kernel_rfl) (by kernel_rfl) rfl (by kernel_rfl) (fun _ _ _ _ h => h) hF (hS.lose (List.nil_sublist _)) (q_move rfl) rfl (fun a hF => ?_)
  refine r_q (i := 3) rfl (by kernel_rfl) (by kernel_rfl) rfl (by kernel_rfl) (fun _ _ _ _ h => h) hF (hS.lose (List.nil_sublist _)) (q_fieldAddr fl67_2 (by decide) rfl) rfl (fun a hF => ?_)
  refine r_q (i := 4) rfl (by kernel_rfl) (by kernel_rfl) rfl (by kernel_rfl) (fun _ _ _ _ h => h) hF (hS.lose (List.nil_sublist _)) (q_loadG (o := 2) (v := .string s) ty9 rfl hbx.h (Nat.le_of_ble_eq_true rfl) rfl rfl) rfl (fun a hF => ?_)
  refine r_q (i := 5) rfl (by kernel_rfl) (by kernel_rfl) rfl (by kernel_rfl) (fun _ _ _ _ h => h) hF (hS.lose (List.nil_sublist _)) (q_lenS Tryd.underlying9 rfl rfl) rfl (fun a hF => ?_)
  refine r_q (i := 6) rfl (by kernel_rfl) (by kernel_rfl) rfl (by kernel_rfl) (fun _ _ _ _ h => h) hF (hS.lose (List.nil_sublist _)) (q_cv64 Tryd.underlying3 Tryd.underlying160 rfl (by omega)) rfl (fun a hF => ?_)
  refine r_q (i := 8) rfl (by kernel_rfl) (by kernel_rfl) rfl (by kernel_rfl) (fun _ _ _ _ h => h) hF (hS.lose (List.nil_sublist _)) (q_fieldAddr fl67_2 (by decide) rfl) rfl (fun a hF => ?_)
  refine r_q (i := 9) rfl (by kernel_rfl) (by kernel_rfl) rfl (by kernel_rfl) (fun _ _ _ _ h => h) hF (hS.lose (List.nil_sublist _)) (q_loadG (o := 2) (v := .string s) ty9 rfl hbx.h (Nat.le_of_ble_eq_true rfl) rfl rfl) rfl (fun a hF => ?_)
  refine r_one (i := 1) (by kernel_rfl) ?_
  have hsub := hS.sub
  refine r_li rfl rfl (fun K4 hK4 => l_buildF (els := [[_]]) Tryd.underlying46 ty5 zr5 hF hS rfl rfl rfl (by simp [Value.cells, dc_length, List.length_replicate, List.length_cons, List.length_nil, List.length_append]) rfl rfl rfl (fun a w b2 hF hle hS r1_1 => ?_))
  replace hbx := hbx.mono hle
  refine hK4 _ _ _ (hS.lose (List.nil_sublist _)) (fun _ h => h.forget hsub hle) ?_
  refine r_one (i := 2) (by kernel_rfl) ?_
  refine r_li rfl rfl (fun K5 hK5 => l_append (L := []) Tryd.underlying46 ty5 zr5 bt5 hF hS rfl rfl (ho) (.slice Tryd.underlying46 r1_1.rd rfl) (by omega) (by simp only [maxLen]; omega) rfl rfl (fun a w c1_2 ad1_2 Lx1_2 ho1_2 hF hS => hK5 _ _ _ (hS.lose (List.nil_sublist _)) (fun _ h => h) ?_))
  rw [show [[Value.int .u8 2]].flatten = bc [2] from rfl, ← bc_append] at ho1_2
  have hkl := ho.sz1
  rw [bc_length] at hkl
  refine r_one (i := 7) (by kernel_rfl) ?_
  have hsub := hS.sub
  refine r_li rfl rfl (fun K6 hK6 => l_call en95 hF rfl rfl (numeral_c _ _ _ _ _ ho1_2 (by omega) s.size (by omega) _ _ hS.hand) (fun v6 w hR a hF => ?_))
  obtain ⟨adn, cpn, Lxn, rfl, hon, hc⟩ := hR
  replace hS : St _ _ (Lxn ++ []) _ := hS.callG (L := []) hc
  refine hK6 _ _ _ (hS.lose (List.nil_sublist _)) (fun _ h => h) ?_
  refine r_one (i := 10) (by kernel_rfl) ?_
  refine r_li rfl rfl (fun K7 hK7 => l_append (L := []) Tryd.underlying46 ty5 zr5 bt5 hF hS rfl rfl (hon) (.str Tryd.underlying9 rfl) (by simp only [List.length_append, List.length_cons, List.length_nil]; omega) (by simp only [List.length_append, List.length_cons, List.length_nil, maxLen]; omega) rfl rfl (fun a w c1_10 ad1_10 Lx1_10 ho1_10 hF hS => hK7 _ _ _ (hS.lose (List.nil_sublist _)) (fun _ h => h) ?_))
  rw [byteCells_bc, ← bc_append] at ho1_10
  have hqe : xs ++ [2] ++ numL s.size ++ s.data.toList = xs ++ encT s.data.toList := by rw [hsz]; simp [encT]
  rw [hqe] at ho1_10
  refine r_q (i := 11) rfl (by kernel_rfl) (by kernel_rfl) rfl (by kernel_rfl) (fun _ _ _ _ h => h) hF (hS.lose (List.nil_sublist _)) (q_assign rfl) rfl (fun a hF => ?_)
  refine r_done (by kernel_rfl) ?_
  refine hK3 _ _ ?_
  refine c_ret ?_
  repeat (first | refine ret_then ?_ | refine ret_blk ?_)
  refine c_ret' (P := Tryd.prog) (fn := Tryd.f97) rfl hF hS (.tmp rfl .nil) ⟨_, rfl, ?_⟩
  have hl := ho1_10.sz1
  rw [bc_length] at hl
  rw [hl] at ho1_10
  refine ⟨ad1_10, _, Lx1_10, ?_, ho1_10, ?_⟩
  · show Value.slice _ _ _ = _
    rw [hl]
  · rw [List.append_nil] at hS
    exact hS.down
end Go.Proofs.YtneokajhmonpaaaDoor
namespace Go.Proofs.YtneokajhmonpaaaDoor
open Go Go.RowKit Go.W
set_option maxRecDepth 10000
namespace T16
theorem bt5 : byS Tryd.prog 5 = some 1 := by kernel_rfl
theorem en95 : enS Tryd.prog 95 = true := by kernel_rfl
theorem fl67_0 : flS Tryd.prog 67 0 = some (0, 1) := by kernel_rfl
theorem fl67_3 : flS Tryd.prog 67 3 = some (3, 1) := by kernel_rfl
theorem fl124_0 : flS Tryd.prog 124 0 = some (0, 1) := by kernel_rfl
theorem ty3 : tyS Tryd.prog 3 = some (false, 1) := by kernel_rfl
theorem ty5 : tyS Tryd.prog 5 = some (false, 1) := by kernel_rfl
theorem ty65 : tyS Tryd.prog 65 = some (false, 1) := by kernel_rfl
theorem ty67 : tyS Tryd.prog 67 = some (true, 4) := by kernel_rfl
theorem ty122 : tyS Tryd.prog 122 = some (false, 1) := by kernel_rfl
theorem ty124 : tyS Tryd.prog 124 = some (true, 1) := by kernel_rfl
theorem ty125 : tyS Tryd.prog 125 = some (false, 1) := by kernel_rfl
theorem zr5 : zrS Tryd.prog 5 = some [.int .u8 0] := by kernel_rfl
theorem zr67 : zrS Tryd.prog 67 = some [.int .i64 0, .int .i64 0, .string ⟨#[]⟩, .slice none 0 0] := by kernel_rfl
theorem zr125 : zrS Tryd.prog 125 = some [.pointer none] := by kernel_rfl
theorem zr158 : zrS Tryd.prog 158 = some [.nilFunc, .nilFunc, .nilFunc, .nilFunc] := by kernel_rfl
theorem mo : Tryd.prog.follows .mixedOrders = true := by kernel_rfl
end T16
open T16

def lfF : Lf → FuncId
  | .i _ => 94
  | .t _ => 97
theorem lfF_en (l : Lf) : enS Tryd.prog (lfF l) = true := by cases l <;> kernel_rfl
theorem writeLf_c (lf : Lf) (ad : Option Addr) (k cp : Nat) (xs : List UInt8) (Lx : List Blk) (ho : OwS 5 1 (.slice ad k cp) k (bc xs) Lx) (hk : k ≤ 3000000) (hz : lf.z ≤ 100000) (w : World) (H : Froz) (hh : Hand w H Lx) :
    CallsR Tryd.prog (lfF lf) [.slice ad k cp, .agg lf.c.toArray] w fun v w' => ∃ ad' cp' Lx', v = .slice ad' (xs ++ lf.e).length cp' ∧ OwS 5 1 (.slice ad' (xs ++ lf.e).length cp') (xs ++ lf.e).length (bc (xs ++ lf.e)) Lx' ∧ St ⟨w, H, Lx.map (·.b)⟩ H Lx' w' := by
  cases lf with
  | i n => exact write1_c _ _ _ _ _ ho hk _ _ _ n w H hh
  | t s => exact write2_c _ _ _ _ _ ho hk _ _ _ s hz w H hh



theorem write3_c (ad : Option Addr) (k cp : Nat) (xs : List UInt8) (Lx : List Blk) (ho : OwS 5 1 (.slice ad k cp) k (bc xs) Lx) (hk : k ≤ 1000) (ls : List Lf) (al : Option Addr) (cl : Nat) (v0 v1 v2 : Value) (bw bp : Nat) (hln : ls.length ≤ 8) (hlz : ∀ l ∈ ls, l.z ≤ 1000) (w : World) (H : Froz) (hh : Hand w H Lx) (hw : HR H bw [.nilFunc, .func (.func 94) #[] #[], .func (.func 97) #[] #[], .func (.func 98) #[] #[.pointer (some ⟨bp, 0, none⟩)]]) (hp : HR H bp [.pointer (some ⟨bw, 0, none⟩)]) (hr : RdL H al 4 (lfE ls)) :
    CallsR Tryd.prog 98 [.slice ad k cp, .agg #[v0, v1, v2, .slice al ls.length cl], .pointer (some ⟨bp, 0, none⟩)] w fun v w' => ∃ ad' cp' Lx', v = .slice ad' (xs ++ encL ls).length cp' ∧ OwS 5 1 (.slice ad' (xs ++ encL ls).length cp') (xs ++ encL ls).length (bc (xs ++ encL ls)) Lx' ∧ St ⟨w, H, Lx.map (·.b)⟩ H Lx' w' := by
  refine calls_start Tryd.func98 rfl Tryd.ntmps98 rfl (fun a hF => ?_)
  have hS := St.startG hh
  have hnl := numL_len ls.length
  refine c_seq (fun K1 hK1 => ?_)
  refine c_reg ?_
  refine n_l rfl (fun K2 hK2 => l_boxA hF hS rfl rfl (fun a w b1 hF hS => hK2 _ _ ?_))
  refine n_q hF hS (q_assign rfl) rfl (fun a hF => ?_)
  refine hK1 _ _ ?_
  refine c_seq (fun K3 hK3 => ?_)
  obtain ⟨H_hbx, hH_hbx, hle_hbx, hS_hbx⟩ := hS.freeze' (i := 0) rfl
  replace hS := hS_hbx
  replace hw := hw.mono hle_hbx
  replace hp := hp.mono hle_hbx
  replace hr := hr.mono hle_hbx
  have hbx : HR H_hbx b1 [v0, v1, v2, .slice al ls.length cl] := by rw [hH_hbx]; exact frz_hr
  replace hS := St.nilR (L := Lx) hS
  refine r_start (fun _ => []) [] mo hS (fun w hS => ?_)
  refine r_q (i := 0) rfl (by kernel_rfl) (by kernel_rfl) rfl (by kernel_rfl) (fun _ _ _ _ h => h) hF (hS.lose (List.nil_sublist _)) (q_move rfl) rfl (fun a hF => ?_)
  refine r_q (i := 3) rfl (by kernel_rfl) (by kernel_rfl) rfl (by kernel_rfl) (fun _ _ _ _ h => h) hF (hS.lose (List.nil_sublist _)) (q_fieldAddr fl67_3 (by decide) rfl) rfl (fun a hF => ?_)
  refine r_q (i := 4) rfl (by kernel_rfl) (by kernel_rfl) rfl (by kernel_rfl) (fun _ _ _ _ h => h) hF (hS.lose (List.nil_sublist _)) (q_loadG (o := 3) (v := .slice al ls.length cl) ty65 rfl hbx.h (Nat.le_of_ble_eq_true rfl) rfl rfl) rfl (fun a hF => ?_)
  refine r_q (i := 5) rfl (by kernel_rfl) (by kernel_rfl) rfl (by kernel_rfl) (fun _ _ _ _ h => h) hF (hS.lose (List.nil_sublist _)) (q_len Tryd.underlying65 rfl rfl) rfl (fun a hF => ?_)
  refine r_q (i := 6) rfl (by kernel_rfl) (by kernel_rfl) rfl (by kernel_rfl) (fun _ _ _ _ h => h) hF (hS.lose (List.nil_sublist _)) (q_cv64 Tryd.underlying3 Tryd.underlying160 rfl (by omega)) rfl (fun a hF => ?_)
  refine r_one (i := 1) (by kernel_rfl) ?_
  have hsub := hS.sub
  refine r_li rfl rfl (fun K4 hK4 => l_buildF (els := [[_]]) Tryd.underlying46 ty5 zr5 hF hS rfl rfl rfl (by simp [Value.cells, dc_length, List.length_replicate, List.length_cons, List.length_nil, List.length_append]) rfl rfl rfl (fun a w b2 hF hle hS r1_1 => ?_))
  replace hw := hw.mono hle
  replace hp := hp.mono hle
  replace hr := hr.mono hle
  replace hbx := hbx.mono hle
  refine hK4 _ _ _ (hS.lose (List.nil_sublist _)) (fun _ h => h.forget hsub hle) ?_
  refine r_one (i := 2) (by kernel_rfl) ?_
  refine r_li rfl rfl (fun K5 hK5 => l_append (L := []) Tryd.underlying46 ty5 zr5 bt5 hF hS rfl rfl (ho) (.slice Tryd.underlying46 r1_1.rd rfl) (by omega) (by simp only [maxLen]; omega) rfl rfl (fun a w c1_2 ad1_2 Lx1_2 ho1_2 hF hS => hK5 _ _ _ (hS.lose (List.nil_sublist _)) (fun _ h => h) ?_))
  rw [show [[Value.int .u8 3]].flatten = bc [3] from rfl, ← bc_append] at ho1_2
  have hkl := ho.sz1
  rw [bc_length] at hkl
  refine r_one (i := 7) (by kernel_rfl) ?_
  have hsub := hS.sub
  refine r_li rfl rfl (fun K6 hK6 => l_call en95 hF rfl rfl (numeral_c _ _ _ _ _ ho1_2 (by omega) ls.length (by omega) _ _ hS.hand) (fun v6 w hR a hF => ?_))
  obtain ⟨adm, cpm, Lxm, rfl, hom, hc⟩ := hR
  replace hS : St _ _ (Lxm ++ []) _ := hS.callG (L := []) hc
  refine hK6 _ _ _ (hS.lose (List.nil_sublist _)) (fun _ h => h) ?_
  refine r_q (i := 8) rfl (by kernel_rfl) (by kernel_rfl) rfl (by kernel_rfl) (fun _ _ _ _ h => h) hF (hS.lose (List.nil_sublist _)) (q_assign rfl) rfl (fun a hF => ?_)
  refine r_done (by kernel_rfl) ?_
  refine hK3 _ _ ?_
  refine c_seq (fun K7 hK7 => ?_)
  refine c_seq (fun K8 hK8 => ?_)
  refine c_reg ?_
  refine n_q hF hS (q_fieldAddr fl67_3 (by decide) rfl) rfl (fun a hF => ?_)
  refine n_q hF hS (q_loadG (o := 3) (v := .slice al ls.length cl) ty65 rfl hbx.h (Nat.le_of_ble_eq_true rfl) rfl rfl) rfl (fun a hF => ?_)
  refine n_q hF hS (q_len Tryd.underlying65 rfl rfl) rfl (fun a hF => ?_)
  refine n_q hF hS (q_move rfl) rfl (fun a hF => ?_)
  refine hK8 _ _ ?_
  refine c_block ?_
  refine c_loopL hF [0, 7, 19, 20, 21, 22, 23, 24, 25, 26, 27, 28, 29, 30, 31, 32, 33]
    (fun g : Nat × Option Addr × Nat × Nat × List Blk => [(0, .slice g.2.1 g.2.2.2.1 g.2.2.1), (19, .int .i64 (g.1 : Int))])
    (fun g => g.2.2.2.2 ++ [])
    (fun g _ => g.1 ≤ ls.length ∧ OwS 5 1 (.slice g.2.1 g.2.2.2.1 g.2.2.1) g.2.2.2.1 (bc (xs ++ encLs ls g.1)) g.2.2.2.2 ∧ g.2.2.2.1 ≤ 1011 + 1011 * g.1)
    (fun g => ls.length - g.1) ((0, adm, cpm, (xs ++ [3] ++ numL ls.length).length, Lxm)) ⟨rfl, rfl, trivial⟩ (hS) (⟨Nat.zero_le _, (show xs ++ [3] ++ numL ls.length = xs ++ encLs ls 0 by simp [encLs]) ▸ hom, by simp only [List.length_append, List.length_cons, List.length_nil]; omega⟩) ?_
  clear hF hS
  intro g a w H hle hF hS hJ
  replace hw := hw.mono hle
  replace hp := hp.mono hle
  replace hr := hr.mono hle
  replace hbx := hbx.mono hle
  replace r1_1 := r1_1.mono hle
  have hl0 := Le.refl H
  obtain ⟨j, ad2, cp2, k2, Ly⟩ := g
  obtain ⟨hj, hO, hkb⟩ := hJ
  try dsimp only at hF hS hj hO hkb
  refine c_seq (fun K9 hK9 => ?_)
  refine c_reg ?_
  refine n_q hF hS (q_lss rfl rfl) rfl (fun a hF => ?_)
  refine hK9 _ _ ?_
  refine c_seq (fun K10 hK10 => ?_)
  refine spd hF (s := 20) rfl (fun hc20 hF => ?_) (fun hc20 hF => ?_)
  · refine c_true hF rfl ?_
    refine wp_skip ?_
    refine hK10 _ _ ?_
    refine c_seq (fun K11 hK11 => ?_)
    refine c_block ?_
    refine c_seq (fun K12 hK12 => ?_)
    refine c_reg ?_
    have hlt : j < ls.length := by omega
    obtain ⟨lf, hlf⟩ : ∃ l, l = ls[j] := ⟨_, rfl⟩
    have hel : (lfE ls)[j]? = some lf.c := by simp [lfE, hlt, hlf]
    have hz2 := hlz lf (by rw [hlf]; exact List.getElem_mem hlt)
    have hel2 := Lf.e_len lf
    refine n_q hF hS (q_indexAddrS Tryd.underlying65 ty67 rfl rfl (by omega) (hr.some (by simp [lfE]; omega))) rfl (fun a hF => ?_)
    refine n_q hF hS (q_loadL0 (v := .agg lf.c.toArray) ty67 rfl hr hel (by decide) rfl (by simp only [ldv, cond_true, List.drop_zero]; rw [List.take_of_length_le (by rw [Lf.c_len]; exact Nat.le_refl _)])) rfl (fun a hF => ?_)
    refine n_l rfl (fun K13 hK13 => l_alloc hF hS zr67 rfl (fun a w b3 hF hS => hK13 _ _ ?_))
    refine n_l rfl (fun K8 hK8 => l_store0A ty67 hF hS rfl rfl (i := 0) rfl (Lf.c_len _) rfl (Lf.c_all1 _) (fun a w hF hS => hK8 _ _ ?_))
    refine hK12 _ _ ?_
    obtain ⟨H_hlb, hH_hlb, hle_hlb, hS_hlb⟩ := hS.freeze' (i := 0) rfl
    replace hS := hS_hlb
    replace hw := hw.mono hle_hlb
    replace hp := hp.mono hle_hlb
    replace hr := hr.mono hle_hlb
    replace hbx := hbx.mono hle_hlb
    replace r1_1 := r1_1.mono hle_hlb
    replace hl0 := hl0.mono hle_hlb
    have hlb : HR H_hlb b3 lf.c := by rw [hH_hlb]; exact frz_hr
    replace hS : St _ _ (Ly ++ []) _ := hS
    refine r_start (fun _ => []) [] mo hS (fun w hS => ?_)
    refine r_q (i := 0) rfl (by kernel_rfl) (by kernel_rfl) rfl (by kernel_rfl) (fun _ _ _ _ h => h) hF (hS.lose (List.nil_sublist _)) (q_loadG (o := 0) (v := .pointer (some ⟨bw, 0, none⟩)) ty125 rfl hp.h (Nat.le_of_ble_eq_true rfl) rfl rfl) rfl (fun a hF => ?_)
    refine r_q (i := 1) rfl (by kernel_rfl) (by kernel_rfl) rfl (by kernel_rfl) (fun _ _ _ _ h => h) hF (hS.lose (List.nil_sublist _)) (q_fieldAddr fl67_0 (by decide) rfl) rfl (fun a hF => ?_)
    refine r_q (i := 2) rfl (by kernel_rfl) (by kernel_rfl) rfl (by kernel_rfl) (fun _ _ _ _ h => h) hF (hS.lose (List.nil_sublist _)) (q_loadG (o := 0) (v := .int .i64 (lf.k : Int)) ty3 rfl hlb.h (by rw [Lf.c_len]; decide) rfl (by cases lf <;> rfl)) rfl (fun a hF => ?_)
    refine r_q (i := 3) rfl (by kernel_rfl) (by kernel_rfl) rfl (by kernel_rfl) (fun _ _ _ _ h => h) hF (hS.lose (List.nil_sublist _)) (q_nilCheck rfl) rfl (fun a hF => ?_)
    refine r_q (i := 4) rfl (by kernel_rfl) (by kernel_rfl) rfl (by kernel_rfl) (fun _ _ _ _ h => h) hF (hS.lose (List.nil_sublist _)) (q_indexAddrAj (j := lf.k) Tryd.underlying158 ty124 rfl rfl (by have := Lf.k_le lf; omega) (by omega)) rfl (fun a hF => ?_)
    refine r_q (i := 5) rfl (by kernel_rfl) (by kernel_rfl) rfl (by kernel_rfl) (fun _ _ _ _ h => h) hF (hS.lose (List.nil_sublist _)) (q_fieldAddr fl124_0 (by decide) rfl) rfl (fun a hF => ?_)
    refine r_q (i := 6) rfl (by kernel_rfl) (by kernel_rfl) rfl (by kernel_rfl) (fun _ _ _ _ h => h) hF (hS.lose (List.nil_sublist _)) (q_loadG (o := lf.k + 0) (v := .func (.func (lfF lf)) #[] #[]) ty122 rfl hw.h (by have := Lf.k_le lf; show lf.k + 0 + 1 ≤ 4; omega) rfl (by cases lf <;> rfl)) rfl (fun a hF => ?_)
    refine r_q (i := 7) rfl (by kernel_rfl) (by kernel_rfl) rfl (by kernel_rfl) (fun _ _ _ _ h => h) hF (hS.lose (List.nil_sublist _)) (q_move rfl) rfl (fun a hF => ?_)
    refine r_q (i := 8) rfl (by kernel_rfl) (by kernel_rfl) rfl (by kernel_rfl) (fun _ _ _ _ h => h) hF (hS.lose (List.nil_sublist _)) (q_loadG (o := 0) (v := .agg lf.c.toArray) ty67 rfl hlb.h (by rw [Lf.c_len]; decide) rfl (by simp only [ldv, cond_true, List.drop_zero]; rw [List.take_of_length_le (by rw [Lf.c_len]; exact Nat.le_refl _)])) rfl (fun a hF => ?_)
    refine r_one (i := 9) (by kernel_rfl) ?_
    have hsub := hS.sub
    refine r_li rfl rfl (fun K14 hK14 => l_callv (f := lfF lf) (fs := []) (us := []) (lfF_en lf) hF rfl rfl rfl (writeLf_c lf _ _ _ _ _ hO (by omega) (by omega) _ _ hS.hand) (fun vL w hR a hF => ?_))
    obtain ⟨adn, cpn, Lxn, rfl, hon, hc⟩ := hR
    replace hS : St _ _ (Lxn ++ []) _ := hS.callG (L := []) hc
    refine hK14 _ _ _ (hS.lose (List.nil_sublist _)) (fun _ h => h) ?_
    refine r_q (i := 10) rfl (by kernel_rfl) (by kernel_rfl) rfl (by kernel_rfl) (fun _ _ _ _ h => h) hF (hS.lose (List.nil_sublist _)) (q_assign rfl) rfl (fun a hF => ?_)
    refine r_done (by kernel_rfl) ?_
    refine hK11 _ _ ?_
    refine c_reg ?_
    refine n_q hF hS (q_addI rfl rfl (by omega)) rfl (fun a hF => ?_)
    refine n_q hF hS (q_move rfl) rfl (fun a hF => ?_)
    exact ⟨(j + 1, adn, cpn, (xs ++ encLs ls j ++ lf.e).length, Lxn), _, (by show ls.length - (j + 1) < ls.length - j; omega), hl0, hF.back ⟨rfl, rfl, trivial⟩ rfl (by repeat first | exact Ext.refl _ _ | refine Ext.rem' rfl ?_ | refine Ext.push rfl ?_), hS.lose (.refl _), ⟨by show j + 1 ≤ ls.length; omega, by show OwS _ _ _ _ (bc (xs ++ encLs ls (j + 1))) _; rw [encLs_succ hlt, ← hlf, ← List.append_assoc]; exact hon, by have hl9 := hO.sz1; rw [bc_length] at hl9; show (xs ++ encLs ls j ++ lf.e).length ≤ _; rw [List.length_append, ← hl9]; omega⟩⟩
  · refine c_false hF rfl ?_
    refine c_exit ?_
    refine hK7 _ _ ?_
    refine c_seq (fun K15 hK15 => ?_)
    refine c_reg ?_
    refine n_q hF hS (q_move rfl) rfl (fun a hF => ?_)
    refine n_q hF hS (q_assign rfl) rfl (fun a hF => ?_)
    refine hK15 _ _ ?_
    refine c_ret ?_
    repeat (first | refine ret_then ?_ | refine ret_blk ?_)
    refine c_ret' (P := Tryd.prog) (fn := Tryd.f98) rfl hF hS (.tmp rfl .nil) ⟨_, rfl, ?_⟩
    rw [show j = ls.length by omega] at hO
    have hl := hO.sz1
    rw [bc_length] at hl
    refine ⟨ad2, cp2, Ly, ?_, by rw [hl] at hO; exact hO, ?_⟩
    · show Value.slice _ _ _ = _
      rw [hl]; rfl
    · rw [List.append_nil] at hS
      exact hS.down

theorem newWriter_c (w : World) (H : Froz) (hz : Fz H w) :
    CallsR Tryd.prog 64 [] w fun v w' => ∃ bw bp H', v = .pointer (some ⟨bw, 0, none⟩) ∧ Le H H' ∧ HR H' bw [.nilFunc, .func (.func 94) #[] #[], .func (.func 97) #[] #[], .func (.func 98) #[] #[.pointer (some ⟨bp, 0, none⟩)]] ∧ HR H' bp [.pointer (some ⟨bw, 0, none⟩)] ∧ St ⟨w, H, []⟩ H' [] w' := by
  refine calls_start Tryd.func64 rfl Tryd.ntmps64 rfl (fun a hF => ?_)
  have hS := St.start w H hz
  refine c_seq (fun K1 hK1 => ?_)
  refine c_reg ?_
  refine n_q hF hS (q_assign rfl) rfl (fun a hF => ?_)
  refine hK1 _ _ ?_
  refine c_seq (fun K2 hK2 => ?_)
  refine c_reg ?_
  refine n_q hF hS (q_buildA (cs := [_, _, _, _]) Tryd.underlying158 ty124 zr158 rfl (by first | rfl | simp [bldA, spl, dc_length, List.length_replicate, List.length_cons, List.length_nil, List.length_append])) rfl (fun a hF => ?_)
  refine n_l rfl (fun K3 hK3 => l_boxA hF hS rfl rfl (fun a w b1 hF hS => hK3 _ _ ?_))
  refine n_l rfl (fun K4 hK4 => l_alloc hF hS zr125 rfl (fun a w b2 hF hS => hK4 _ _ ?_))
  refine n_l rfl (fun K5 hK5 => l_store (vs := [_]) ty125 hF hS rfl rfl (i := 0) rfl rfl rfl rfl rfl (fun a w hF hS => hK5 _ _ ?_))
  refine hK2 _ _ ?_
  refine c_seq (fun K6 hK6 => ?_)
  refine c_reg ?_
  refine n_q hF hS (q_load ty125 rfl (i := 0) rfl rfl rfl rfl) rfl (fun a hF => ?_)
  refine n_q hF hS (q_nilCheck rfl) rfl (fun a hF => ?_)
  refine n_q hF hS (q_indexAddrAj (j := 1) Tryd.underlying158 ty124 rfl rfl (by decide) (by decide)) rfl (fun a hF => ?_)
  refine n_q hF hS (q_fieldAddr fl124_0 (by decide) rfl) rfl (fun a hF => ?_)
  refine n_l rfl (fun K7 hK7 => l_store (vs := [_]) ty122 hF hS rfl rfl (i := 1) rfl rfl rfl rfl rfl (fun a w hF hS => hK7 _ _ ?_))
  refine hK6 _ _ ?_
  refine c_seq (fun K8 hK8 => ?_)
  refine c_reg ?_
  refine n_q hF hS (q_load ty125 rfl (i := 0) rfl rfl rfl rfl) rfl (fun a hF => ?_)
  refine n_q hF hS (q_nilCheck rfl) rfl (fun a hF => ?_)
  refine n_q hF hS (q_indexAddrAj (j := 2) Tryd.underlying158 ty124 rfl rfl (by decide) (by decide)) rfl (fun a hF => ?_)
  refine n_q hF hS (q_fieldAddr fl124_0 (by decide) rfl) rfl (fun a hF => ?_)
  refine n_l rfl (fun K9 hK9 => l_store (vs := [_]) ty122 hF hS rfl rfl (i := 1) rfl rfl rfl rfl rfl (fun a w hF hS => hK9 _ _ ?_))
  refine hK8 _ _ ?_
  refine c_seq (fun K10 hK10 => ?_)
  refine c_reg ?_
  refine n_q hF hS (q_load ty125 rfl (i := 0) rfl rfl rfl rfl) rfl (fun a hF => ?_)
  refine n_q hF hS (q_makeFunc rfl rfl) rfl (fun a hF => ?_)
  refine n_q hF hS (q_nilCheck rfl) rfl (fun a hF => ?_)
  refine n_q hF hS (q_indexAddrAj (j := 3) Tryd.underlying158 ty124 rfl rfl (by decide) (by decide)) rfl (fun a hF => ?_)
  refine n_q hF hS (q_fieldAddr fl124_0 (by decide) rfl) rfl (fun a hF => ?_)
  refine n_l rfl (fun K11 hK11 => l_store (vs := [_]) ty122 hF hS rfl rfl (i := 1) rfl rfl rfl rfl rfl (fun a w hF hS => hK11 _ _ ?_))
  refine hK10 _ _ ?_
  refine c_seq (fun K12 hK12 => ?_)
  refine c_reg ?_
  refine n_q hF hS (q_load ty125 rfl (i := 0) rfl rfl rfl rfl) rfl (fun a hF => ?_)
  refine n_q hF hS (q_assign rfl) rfl (fun a hF => ?_)
  refine hK12 _ _ ?_
  refine c_ret ?_
  repeat (first | refine ret_then ?_ | refine ret_blk ?_)
  refine c_ret' (P := Tryd.prog) (fn := Tryd.f64) rfl hF hS (.tmp rfl .nil) ⟨_, rfl, ?_⟩
  obtain ⟨H1, hH1, hle1, hS1⟩ := hS.freeze' (i := 1) rfl
  obtain ⟨H2, hH2, hle2, hS2⟩ := hS1.freeze' (i := 0) rfl
  refine ⟨_, _, H2, rfl, hle1.trans hle2, ?_, by rw [hH2]; exact frz_hr, hS2⟩
  refine HR.mono ?_ hle2
  rw [hH1]; exact frz_hr
end Go.Proofs.YtneokajhmonpaaaDoor
