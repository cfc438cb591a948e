/- quarrylaw02.NatOwn answers true. No condition. -/
import Derived.Test.YtefljbbpaideaaaKOf
import Derived.Test.YtefljbbpaideaaaKNf2
import Derived.Test.YtefljbbpaideaaaKNg0
namespace Go.Proofs.Ytefljbbpaideaaa
set_option linter.unusedVariables false
set_option linter.unusedSimpArgs false
open Go Go.RowKit
theorem NDivMod_o {N M : Heaplet} {ao bo : Option Addr} {n m ca cb : Nat} {a b : List UInt8} (ha : RSl N 1 ao n ca (u8s a)) (hb : RSl M 1 bo m cb (u8s b)) (hn : n ≤ 274877906944) (hm : m ≤ 274877906944) : Fn Try.prog 39 #[.slice ao n ca, .slice bo m cb] [] [N, M] (fun v L => ∃ M1 p1 n1 c1 l1 M2 p2 n2 c2 l2 ok, v = .tuple #[.slice p1 n1 c1, .slice p2 n2 c2, .bool ok] ∧ L = [M1, M2] ∧ Row M1 5 1 p1 n1 c1 (u8s l1) ∧ Row M2 5 1 p2 n2 c2 (u8s l2) ∧ n1 ≤ n ∧ n2 ≤ n) := by
  have hla := ha.len8
  have hba := bytes_be a
  rcases Nat.eq_zero_or_pos (be b) with h | h
  · intro E w R hw hr
    refine (NDivMod_0 (ao := ao) (n := n) (ca := ca) hb hm h E w R hw (fun K hK => hr K (by simp at hK; simp [hK]))).mono ?_
    rintro e w' ⟨v, L1, rfl, ⟨rfl, rfl⟩, hp⟩
    exact ⟨_, [nilH, nilH], rfl, ⟨nilH, none, 0, 0, [], nilH, none, 0, 0, [], false, rfl, rfl, Row.nil _ _ _, Row.nil _ _ _, by omega, by omega⟩, hp.empty.empty⟩
  · refine (NDivMod_f ha hb hn hm h).mono ?_
    rintro v L ⟨M1, p1, c1, M2, p2, c2, rfl, rfl, r1, r2⟩
    have h1 := bytes_mono (Nat.div_le_self (be a) (be b))
    have h2 := bytes_mono (Nat.mod_le (be a) (be b))
    exact ⟨M1, p1, _, c1, _, M2, p2, _, c2, _, true, rfl, rfl, r1, r2, by omega, by omega⟩
theorem NModExp_o {N M Nm : Heaplet} {ao bo mo : Option Addr} {n m nm ca cb cm : Nat} {a b l : List UInt8} (ha : RSl N 1 ao n ca (u8s a)) (hb : RSl M 1 bo m cb (u8s b)) (hl : RSl Nm 1 mo nm cm (u8s l)) (hn : n ≤ 17179869184) (hm : m ≤ 17179869184) (hnm : nm ≤ 17179869184) : Fn Try.prog 44 #[.slice ao n ca, .slice bo m cb, .slice mo nm cm] [] [N, M, Nm] (fun v L => ∃ M1 p1 n1 c1 l1, v = .slice p1 n1 c1 ∧ L = [M1] ∧ Row M1 5 1 p1 n1 c1 (u8s l1) ∧ n1 ≤ nm) := by
  have hll := hl.len8
  have hbl := bytes_be l
  rcases Nat.eq_zero_or_pos (be l) with h | h
  · intro E w R hw hr
    refine (NModExp_0 (ao := ao) (n := n) (ca := ca) hl hb hm hnm h E w R hw (fun K hK => hr K (by simp at hK; rcases hK with rfl | rfl <;> simp))).mono ?_
    rintro e w' ⟨v, L1, rfl, ⟨rfl, rfl⟩, hp⟩
    exact ⟨_, [nilH], rfl, ⟨nilH, none, 0, 0, [], rfl, rfl, Row.nil _ _ _, by omega⟩, hp.empty⟩
  · refine (NModExp_f ha hb hl hn hm hnm h).mono ?_
    rintro v L ⟨M1, p1, c1, rfl, rfl, r1⟩
    have h1 := bytes_mono (Nat.le_of_lt (Nat.mod_lt (be a ^ be b) h))
    exact ⟨M1, p1, _, c1, _, rfl, rfl, r1, by omega⟩
set_option maxRecDepth 100000 in
set_option maxHeartbeats 4000000 in
theorem NatOwn_f {N : Heaplet} {ao bo mo : Option Addr} {n m k ca cb cm : Nat} {a b l : List UInt8} {I W : Int} (ha : RSl N 1 ao n ca (u8s a)) (hb : RSl N 1 bo m cb (u8s b)) (hm : RSl N 1 mo k cm (u8s l)) :
    Fn Try.prog 17 #[.agg #[.slice ao n ca, .slice bo m cb, .slice mo k cm, .int .i64 I, .int .i64 W]] [] [N] (fun v L => v = .bool true ∧ L = []) := by
  obtain ⟨x, hx⟩ : ∃ x, x = a.take 600 := ⟨_, rfl⟩
  obtain ⟨y, hy⟩ : ∃ y, y = b.take 600 := ⟨_, rfl⟩
  obtain ⟨z, hz⟩ : ∃ z, z = l.take 40 := ⟨_, rfl⟩
  have hxl : x.length ≤ 600 := by rw [hx, List.length_take]; omega
  have hyl : y.length ≤ 600 := by rw [hy, List.length_take]; omega
  have hzl : z.length ≤ 40 := by rw [hz, List.length_take]; omega
  have e1 : (bytesOf (be x)).length ≤ 600 := Nat.le_trans (bytes_be x) hxl
  have e2 : (bytesOf (be y)).length ≤ 600 := Nat.le_trans (bytes_be y) hyl
  have e3 : (bytesOf (be x + be y)).length ≤ 601 := bytes_add e1 e2
  have e4 : (bytesOf (be x + be [])).length ≤ 601 := bytes_add e1 (Nat.le_trans (bytes_be []) (by simp))
  have e5 : (bytesOf (be x - be y)).length ≤ 600 := Nat.le_trans (bytes_mono (Nat.sub_le _ _)) e1
  have e6 : (bytesOf (be x - be [])).length ≤ 600 := Nat.le_trans (bytes_mono (Nat.sub_le _ _)) e1
  have e7 : (bytesOf (be x * be [1])).length ≤ 1200 := bytes_mul e1 (Nat.le_trans (bytes_be [1]) (by simp))
  refine Fn.enter (vs := [.agg #[.slice ao n ca, .slice bo m cb, .slice mo k cm, .int .i64 I, .int .i64 W]]) Try.func17 rfl rfl rfl ?_
  intro E R hR
  have ha := ha.le (hR N (by simp))
  have hb := hb.le (hR N (by simp))
  have hm := hm.le (hR N (by simp))
  have h0 : RSl R 1 none 0 0 (u8s []) := RSl.nil _ _
  change At _ _ E [R] _
  refine At.seq fun K1 hk_1 => ?_
  refine At.region ?_
  refine op_box (nxla rfl) rfl rfl rfl (fun N1 b1 B1 => ?_)
  refine op_assign (nxlf rfl) rfl rfl ?_
  refine At.opsNil ?_
  refine At.norm (hk_1 ?_)
  refine At.seq fun K2 hk_2 => ?_
  refine At.region ?_
  refine op_build (out := [.slice none 0 0, .slice none 0 0]) (nxlf rfl) ze82 pl82 .nil rfl rfl ?_
  refine op_box (nxla rfl) rfl rfl rfl (fun N17 b17 B17 => ?_)
  refine op_assign (nxlf rfl) rfl rfl ?_
  refine At.opsNil ?_
  refine At.norm (hk_2 ?_)
  refine At.seq fun K3 hk_3 => ?_
  refine At.region ?_
  refine op_build (out := [.slice none 0 0, .slice none 0 0, .slice none 0 0, .slice none 0 0, .int .i64 0]) (nxlf rfl) ze85 pl85 .nil rfl rfl ?_
  refine op_box (nxla rfl) rfl rfl rfl (fun N19 b19 B19 => ?_)
  refine op_assign (nxlf rfl) rfl rfl ?_
  refine At.opsNil ?_
  refine At.norm (hk_3 ?_)
  refine At.seq fun K4 hk_4 => ?_
  refine At.seq fun K5 hk_5 => ?_
  refine At.region ?_
  refine op_assign (nxlf rfl) rfl rfl ?_
  refine At.opsNil ?_
  refine At.norm (hk_5 ?_)
  refine At.block ?_
  have hL0 := Loan.start B17
  have hB0 := Book.start B19
  refine At.empty ?_
  refine At.empty ?_
  refine At.perm sel5 ?_
  refine At.perm sel1 ?_
  refine At.perm sel3 ?_
  refine At.perm sel3 ?_
  refine At.perm sel4 ?_
  refine At.perm sel5 ?_
  refine At.loop (fun fr_ hp_ ms_ => ∃ (i : Nat) (NL NI NB NJ : Heaplet), fr_ = [(1, .pointer (some ⟨b1, 0, none⟩)), (3, .pointer (some ⟨b17, 0, none⟩)), (4, .pointer (some ⟨b19, 0, none⟩)), (5, .int .i64 (i : Int))] ∧ hp_ = [N1, NL, NI, NB, NJ, R] ∧ 2 - i = ms_ ∧ (i ≤ 2) ∧ (Loan b17 NL NI (30 * i)) ∧ (Book b19 NB NJ)) ?_ (.refl _) ⟨0, N17, nilH, N19, nilH, rfl, rfl, rfl, by omega, hL0, hB0⟩ ?_
  · exact .cons (by first | exact lkI rfl (by omega) | rfl) (.cons (by first | exact lkI rfl (by omega) | rfl) (.cons (by first | exact lkI rfl (by omega) | rfl) (.cons (by first | exact lkI rfl (by omega) | rfl) .nil)))
  rintro _ _ _ ⟨i, NL, NI, NB, NJ, rfl, rfl, rfl, hi, hL, hB⟩
  refine At.seq fun K6 hk_6 => ?_
  refine At.seq fun K7 hk_7 => ?_
  refine At.region ?_
  refine op_move (nxlf rfl) rfl rfl ?_
  refine op_lss (nxlf rfl) rfl rfl rfl ?_
  refine At.opsNil ?_
  refine At.norm (hk_7 ?_)
  refine At.condP rfl (fun c21 => ?_) (fun c21 => ?_)
  · refine At.skip ?_
    refine At.norm (hk_6 ?_)
    refine At.seq fun K8 hk_8 => ?_
    refine At.block ?_
    refine At.seq fun K9 hk_9 => ?_
    refine At.perm sel5 ?_
    refine At.perm sel1 ?_
    refine At.perm sel5 ?_
    refine At.perm sel5 ?_
    refine At.perm sel5 ?_
    refine At.perm sel5 ?_
    refine At.drawnS [N1, R] [8] [] [0,1,3,4,6,7,2,5,8,9,10,11] (by kernel_rfl) (by kernel_rfl) (.cons _ (.cons _ (.cons _ (.cons _ (.refl _))))) ?_
    refine op_fieldAddr (nxsf rfl rfl rfl) fl36_0 rfl rfl ?_
    refine op_loadB (nxsf rfl rfl rfl) sc34 rfl B1 (by first | rfl) mem0 rfl ?_
    refine op_fieldAddr (nxsf rfl rfl rfl) fl36_1 rfl rfl ?_
    refine op_loadB (nxsf rfl rfl rfl) sc34 rfl B1 (by first | rfl) mem0 rfl ?_
    refine op_fieldAddr (nxsf rfl rfl rfl) fl36_2 rfl rfl ?_
    refine op_loadB (nxsf rfl rfl rfl) sc34 rfl B1 (by first | rfl) mem0 rfl ?_
    refine op_callA (Nx.agree (nxsm rfl rfl rfl)) (.cons rfl .nil) (few_f ha) Try.func38 rfl rfl (by simp) rfl ?_
    rintro v26 L26 ⟨M26, p26, c26, rfl, rfl, r26⟩
    change At _ _ _ [M26, NL, NI, NB, NJ, N1, R] _
    rw [← hx] at r26 ⊢; have s26 := r26.rsl
    refine At.perm sel6 ?_
    refine At.perm sel6 ?_
    refine At.perm sel2 ?_
    refine At.perm sel6 ?_
    refine At.perm sel6 ?_
    refine At.perm sel6 ?_
    refine At.perm sel6 ?_
    refine At.moreS (Lst := [N1, R]) (Lst' := [M26, N1, R]) (.cons _ (.refl _)) (.cons _ (.cons _ (.cons _ (.cons _ (.refl _))))) ?_
    refine op_callA (Nx.agree (nxsm rfl rfl rfl)) (.cons rfl .nil) (few_f hb) Try.func38 rfl rfl (by simp) rfl ?_
    rintro v29 L29 ⟨M29, p29, c29, rfl, rfl, r29⟩
    change At _ _ _ [M29, NL, NI, NB, NJ, M26, N1, R] _
    rw [← hy] at r29 ⊢; have s29 := r29.rsl
    refine At.perm sel7 ?_
    refine At.perm sel7 ?_
    refine At.perm sel7 ?_
    refine At.perm sel3 ?_
    refine At.perm sel7 ?_
    refine At.perm sel7 ?_
    refine At.perm sel7 ?_
    refine At.perm sel7 ?_
    refine At.moreS (Lst := [M26, N1, R]) (Lst' := [M29, M26, N1, R]) (.cons _ (.refl _)) (.cons _ (.cons _ (.cons _ (.cons _ (.refl _))))) ?_
    refine op_callA (Nx.agree (nxss rfl rfl rfl rfl)) (.cons rfl (.cons rfl .nil)) (KTwin_f hm 40 40 rfl (by omega)) Try.func43 rfl rfl (by simp) rfl ?_
    rintro v32 L32 ⟨M32, p32, c32, rfl, rfl, r32⟩
    change At _ _ _ [M32, NL, NI, NB, NJ, M29, M26, N1, R] _
    rw [← hz] at r32 ⊢; have s32 := r32.rsl
    refine At.anyS (.refl _) ?_
    refine op_assign (nxsf rfl rfl rfl) rfl rfl ?_
    refine op_assign (nxsf rfl rfl rfl) rfl rfl ?_
    refine op_assign (nxsf rfl rfl rfl) rfl rfl ?_
    refine At.sNil ?_
    refine At.norm (hk_9 ?_)
    refine At.seq fun K10 hk_10 => ?_
    refine At.region ?_
    refine op_move (nxlf rfl) rfl rfl ?_
    refine op_move (nxlf rfl) rfl rfl ?_
    refine op_move (nxlf rfl) rfl rfl ?_
    refine At.perm sel8 ?_
    refine At.perm sel8 ?_
    refine At.perm sel8 ?_
    refine At.perm sel8 ?_
    refine At.perm sel8 ?_
    refine At.perm sel8 ?_
    refine At.perm sel6 ?_
    refine At.perm sel8 ?_
    refine At.perm sel8 ?_
    refine op_call (nxl rfl) (.cons rfl (.cons rfl .nil)) (LoanBytes_f hL s26 (by omega) (by omega)) (F := [M32, NB, NJ, M29, M26, N1, R]) Try.func99 rfl rfl (.refl _) (by simp) rfl ?_
    rintro v36 L36 ⟨NL, NI, p36, c36, rfl, rfl, hL, le36, s36⟩
    change At _ _ _ [NL, NI, M32, NB, NJ, M29, M26, N1, R] _
    skip
    refine op_callA (nxla rfl) (.cons rfl .nil) (NTrim_f s36 (by omega)) Try.func67 rfl rfl (by simp) rfl ?_
    rintro v37 L37 ⟨M37, p37, c37, rfl, rfl, r37⟩
    change At _ _ _ [M37, NL, NI, M32, NB, NJ, M29, M26, N1, R] _
    refine At.perm sel9 ?_
    refine At.perm sel9 ?_
    refine At.perm sel9 ?_
    refine At.perm sel9 ?_
    refine At.perm sel7 ?_
    refine At.perm sel7 ?_
    refine At.perm sel7 ?_
    refine At.perm sel7 ?_
    refine At.perm sel9 ?_
    refine At.perm sel9 ?_
    refine op_call (nxl rfl) (.cons rfl (.cons rfl .nil)) (BookBytes_f hB r37 (by omega)) (F := [NL, NI, M32, M29, M26, N1, R]) Try.func98 rfl rfl (.refl _) (by simp) rfl ?_
    rintro v38 L38 ⟨rfl, NB, NJ, rfl, hB⟩
    change At _ _ _ [NB, NJ, NL, NI, M32, M29, M26, N1, R] _
    skip
    refine At.opsNil ?_
    refine At.norm (hk_10 ?_)
    refine At.seq fun K11 hk_11 => ?_
    refine At.region ?_
    refine op_move (nxlf rfl) rfl rfl ?_
    refine op_move (nxlf rfl) rfl rfl ?_
    refine op_move (nxlf rfl) rfl rfl ?_
    refine At.perm sel8 ?_
    refine At.perm sel8 ?_
    refine At.perm sel8 ?_
    refine At.perm sel8 ?_
    refine At.perm sel8 ?_
    refine At.perm sel6 ?_
    refine At.perm sel6 ?_
    refine At.perm sel8 ?_
    refine At.perm sel8 ?_
    refine op_call (nxl rfl) (.cons rfl (.cons rfl .nil)) (LoanBytes_f hL s26 (by omega) (by omega)) (F := [NB, NJ, M32, M29, M26, N1, R]) Try.func99 rfl rfl (.refl _) (by simp) rfl ?_
    rintro v42 L42 ⟨NL, NI, p42, c42, rfl, rfl, hL, le42, s42⟩
    change At _ _ _ [NL, NI, NB, NJ, M32, M29, M26, N1, R] _
    skip
    refine op_move (nxlf rfl) rfl rfl ?_
    refine op_move (nxlf rfl) rfl rfl ?_
    refine op_call (nxl rfl) (.cons rfl (.cons rfl .nil)) (LoanBytes_f hL s29 (by omega) (by omega)) (F := [NB, NJ, M32, M29, M26, N1, R]) Try.func99 rfl rfl (.refl _) (by simp) rfl ?_
    rintro v45 L45 ⟨NL, NI, p45, c45, rfl, rfl, hL, le45, s45⟩
    change At _ _ _ [NL, NI, NB, NJ, M32, M29, M26, N1, R] _
    have s42 := s42.le le45
    refine op_callA (nxla rfl) (.cons rfl (.cons rfl .nil)) (NAdd_f s42 s45 (by omega) (by omega)) Try.func70 rfl rfl (by simp) rfl ?_
    rintro v46 L46 ⟨M46, p46, c46, rfl, rfl, r46⟩
    change At _ _ _ [M46, NL, NI, NB, NJ, M32, M29, M26, N1, R] _
    refine At.perm sel9 ?_
    refine At.perm sel9 ?_
    refine At.perm sel9 ?_
    refine At.perm sel9 ?_
    refine At.perm sel9 ?_
    refine At.perm sel7 ?_
    refine At.perm sel7 ?_
    refine At.perm sel7 ?_
    refine At.perm sel9 ?_
    refine At.perm sel9 ?_
    refine op_call (nxl rfl) (.cons rfl (.cons rfl .nil)) (BookBytes_f hB r46 (by omega)) (F := [NL, NI, M32, M29, M26, N1, R]) Try.func98 rfl rfl (.refl _) (by simp) rfl ?_
    rintro v47 L47 ⟨rfl, NB, NJ, rfl, hB⟩
    change At _ _ _ [NB, NJ, NL, NI, M32, M29, M26, N1, R] _
    skip
    refine At.opsNil ?_
    refine At.norm (hk_11 ?_)
    refine At.seq fun K12 hk_12 => ?_
    refine At.region ?_
    refine op_move (nxlf rfl) rfl rfl ?_
    refine op_move (nxlf rfl) rfl rfl ?_
    refine op_move (nxlf rfl) rfl rfl ?_
    refine At.perm sel8 ?_
    refine At.perm sel8 ?_
    refine At.perm sel8 ?_
    refine At.perm sel8 ?_
    refine At.perm sel8 ?_
    refine At.perm sel6 ?_
    refine At.perm sel6 ?_
    refine At.perm sel8 ?_
    refine At.perm sel8 ?_
    refine op_call (nxl rfl) (.cons rfl (.cons rfl .nil)) (LoanBytes_f hL s26 (by omega) (by omega)) (F := [NB, NJ, M32, M29, M26, N1, R]) Try.func99 rfl rfl (.refl _) (by simp) rfl ?_
    rintro v51 L51 ⟨NL, NI, p51, c51, rfl, rfl, hL, le51, s51⟩
    change At _ _ _ [NL, NI, NB, NJ, M32, M29, M26, N1, R] _
    skip
    refine op_move (nxlf rfl) rfl rfl ?_
    refine op_call (nxl rfl) (.cons rfl (.cons rfl .nil)) (LoanBytes_f hL h0 (by omega) (by omega)) (F := [NB, NJ, M32, M29, M26, N1, R]) Try.func99 rfl rfl (.refl _) (by simp) rfl ?_
    rintro v53 L53 ⟨NL, NI, p53, c53, rfl, rfl, hL, le53, s53⟩
    change At _ _ _ [NL, NI, NB, NJ, M32, M29, M26, N1, R] _
    have s51 := s51.le le53
    refine op_callA (nxla rfl) (.cons rfl (.cons rfl .nil)) (NAdd_f s51 s53 (by omega) (by omega)) Try.func70 rfl rfl (by simp) rfl ?_
    rintro v54 L54 ⟨M54, p54, c54, rfl, rfl, r54⟩
    change At _ _ _ [M54, NL, NI, NB, NJ, M32, M29, M26, N1, R] _
    refine At.perm sel9 ?_
    refine At.perm sel9 ?_
    refine At.perm sel9 ?_
    refine At.perm sel9 ?_
    refine At.perm sel9 ?_
    refine At.perm sel7 ?_
    refine At.perm sel7 ?_
    refine At.perm sel7 ?_
    refine At.perm sel9 ?_
    refine At.perm sel9 ?_
    refine op_call (nxl rfl) (.cons rfl (.cons rfl .nil)) (BookBytes_f hB r54 (by omega)) (F := [NL, NI, M32, M29, M26, N1, R]) Try.func98 rfl rfl (.refl _) (by simp) rfl ?_
    rintro v55 L55 ⟨rfl, NB, NJ, rfl, hB⟩
    change At _ _ _ [NB, NJ, NL, NI, M32, M29, M26, N1, R] _
    skip
    refine At.opsNil ?_
    refine At.norm (hk_12 ?_)
    refine At.seq fun K13 hk_13 => ?_
    refine At.region ?_
    refine op_move (nxlf rfl) rfl rfl ?_
    refine op_move (nxlf rfl) rfl rfl ?_
    refine At.perm sel8 ?_
    refine At.perm sel8 ?_
    refine At.perm sel8 ?_
    refine At.perm sel8 ?_
    refine At.perm sel8 ?_
    refine At.perm sel6 ?_
    refine At.perm sel6 ?_
    refine At.perm sel8 ?_
    refine At.perm sel8 ?_
    refine op_call (nxl rfl) (.cons rfl (.cons rfl .nil)) (LoanBytes_f hL s26 (by omega) (by omega)) (F := [NB, NJ, M32, M29, M26, N1, R]) Try.func99 rfl rfl (.refl _) (by simp) rfl ?_
    rintro v59 L59 ⟨NL, NI, p59, c59, rfl, rfl, hL, le59, s59⟩
    change At _ _ _ [NL, NI, NB, NJ, M32, M29, M26, N1, R] _
    skip
    refine op_move (nxlf rfl) rfl rfl ?_
    refine op_move (nxlf rfl) rfl rfl ?_
    refine op_call (nxl rfl) (.cons rfl (.cons rfl .nil)) (LoanBytes_f hL s29 (by omega) (by omega)) (F := [NB, NJ, M32, M29, M26, N1, R]) Try.func99 rfl rfl (.refl _) (by simp) rfl ?_
    rintro v62 L62 ⟨NL, NI, p62, c62, rfl, rfl, hL, le62, s62⟩
    change At _ _ _ [NL, NI, NB, NJ, M32, M29, M26, N1, R] _
    have s59 := s59.le le62
    refine op_callA (nxla rfl) (.cons rfl (.cons rfl .nil)) (NSub_f s59 s62 (by omega) (by omega)) Try.func94 rfl rfl (by simp) rfl ?_
    rintro v63 L63 ⟨M63, p63, c63, rfl, rfl, r63⟩
    change At _ _ _ [M63, NL, NI, NB, NJ, M32, M29, M26, N1, R] _
    refine op_move (nxlf rfl) rfl rfl ?_
    refine op_extract (nxlf rfl) rfl rfl rfl ?_
    refine op_extract (nxlf rfl) rfl rfl rfl ?_
    refine op_assign (nxlf rfl) rfl rfl ?_
    refine op_assign (nxlf rfl) rfl rfl ?_
    refine At.opsNil ?_
    refine At.norm (hk_13 ?_)
    refine At.seq fun K14 hk_14 => ?_
    refine At.region ?_
    refine op_move (nxlf rfl) rfl rfl ?_
    refine op_move (nxlf rfl) rfl rfl ?_
    refine At.perm sel9 ?_
    refine At.perm sel9 ?_
    refine At.perm sel9 ?_
    refine At.perm sel9 ?_
    refine At.perm sel9 ?_
    refine At.perm sel7 ?_
    refine At.perm sel7 ?_
    refine At.perm sel7 ?_
    refine At.perm sel9 ?_
    refine At.perm sel9 ?_
    refine op_call (nxl rfl) (.cons rfl (.cons rfl .nil)) (BookBytes_f hB r63 (by omega)) (F := [NL, NI, M32, M29, M26, N1, R]) Try.func98 rfl rfl (.refl _) (by simp) rfl ?_
    rintro v68 L68 ⟨rfl, NB, NJ, rfl, hB⟩
    change At _ _ _ [NB, NJ, NL, NI, M32, M29, M26, N1, R] _
    skip
    refine At.opsNil ?_
    refine At.norm (hk_14 ?_)
    refine At.seq fun K15 hk_15 => ?_
    refine At.region ?_
    refine op_move (nxlf rfl) rfl rfl ?_
    refine op_move (nxlf rfl) rfl rfl ?_
    refine At.perm sel8 ?_
    refine At.perm sel8 ?_
    refine At.perm sel8 ?_
    refine At.perm sel8 ?_
    refine At.perm sel8 ?_
    refine At.perm sel6 ?_
    refine At.perm sel6 ?_
    refine At.perm sel8 ?_
    refine At.perm sel8 ?_
    refine op_call (nxl rfl) (.cons rfl (.cons rfl .nil)) (LoanBytes_f hL s26 (by omega) (by omega)) (F := [NB, NJ, M32, M29, M26, N1, R]) Try.func99 rfl rfl (.refl _) (by simp) rfl ?_
    rintro v72 L72 ⟨NL, NI, p72, c72, rfl, rfl, hL, le72, s72⟩
    change At _ _ _ [NL, NI, NB, NJ, M32, M29, M26, N1, R] _
    skip
    refine op_move (nxlf rfl) rfl rfl ?_
    refine op_call (nxl rfl) (.cons rfl (.cons rfl .nil)) (LoanBytes_f hL h0 (by omega) (by omega)) (F := [NB, NJ, M32, M29, M26, N1, R]) Try.func99 rfl rfl (.refl _) (by simp) rfl ?_
    rintro v74 L74 ⟨NL, NI, p74, c74, rfl, rfl, hL, le74, s74⟩
    change At _ _ _ [NL, NI, NB, NJ, M32, M29, M26, N1, R] _
    have s72 := s72.le le74
    refine op_callA (nxla rfl) (.cons rfl (.cons rfl .nil)) (NSub_f s72 s74 (by omega) (by omega)) Try.func94 rfl rfl (by simp) rfl ?_
    rintro v75 L75 ⟨M75, p75, c75, rfl, rfl, r75⟩
    change At _ _ _ [M75, NL, NI, NB, NJ, M32, M29, M26, N1, R] _
    refine op_move (nxlf rfl) rfl rfl ?_
    refine op_extract (nxlf rfl) rfl rfl rfl ?_
    refine op_extract (nxlf rfl) rfl rfl rfl ?_
    refine op_assign (nxlf rfl) rfl rfl ?_
    refine At.opsNil ?_
    refine At.norm (hk_15 ?_)
    refine At.seq fun K16 hk_16 => ?_
    refine At.region ?_
    refine op_move (nxlf rfl) rfl rfl ?_
    refine op_move (nxlf rfl) rfl rfl ?_
    refine At.perm sel9 ?_
    refine At.perm sel9 ?_
    refine At.perm sel9 ?_
    refine At.perm sel9 ?_
    refine At.perm sel9 ?_
    refine At.perm sel7 ?_
    refine At.perm sel7 ?_
    refine At.perm sel7 ?_
    refine At.perm sel9 ?_
    refine At.perm sel9 ?_
    refine op_call (nxl rfl) (.cons rfl (.cons rfl .nil)) (BookBytes_f hB r75 (by omega)) (F := [NL, NI, M32, M29, M26, N1, R]) Try.func98 rfl rfl (.refl _) (by simp) rfl ?_
    rintro v80 L80 ⟨rfl, NB, NJ, rfl, hB⟩
    change At _ _ _ [NB, NJ, NL, NI, M32, M29, M26, N1, R] _
    skip
    refine At.opsNil ?_
    refine At.norm (hk_16 ?_)
    refine At.seq fun K17 hk_17 => ?_
    refine At.region ?_
    refine op_move (nxlf rfl) rfl rfl ?_
    refine op_move (nxlf rfl) rfl rfl ?_
    refine op_move (nxlf rfl) rfl rfl ?_
    refine At.perm sel8 ?_
    refine At.perm sel8 ?_
    refine At.perm sel8 ?_
    refine At.perm sel8 ?_
    refine At.perm sel8 ?_
    refine At.perm sel6 ?_
    refine At.perm sel6 ?_
    refine At.perm sel8 ?_
    refine At.perm sel8 ?_
    refine op_call (nxl rfl) (.cons rfl (.cons rfl .nil)) (LoanBytes_f hL s26 (by omega) (by omega)) (F := [NB, NJ, M32, M29, M26, N1, R]) Try.func99 rfl rfl (.refl _) (by simp) rfl ?_
    rintro v84 L84 ⟨NL, NI, p84, c84, rfl, rfl, hL, le84, s84⟩
    change At _ _ _ [NL, NI, NB, NJ, M32, M29, M26, N1, R] _
    skip
    refine op_move (nxlf rfl) rfl rfl ?_
    refine op_lit (nxla rfl) Try.underlying34 ze5 sz5 (.cons rfl .nil) rfl rfl (by simp [Value.cells]) rfl rfl rfl (fun N86 a86 r86 => ?_)
    simp only [flatV, List.flatMap_cons, List.flatMap_nil, Value.cells, List.append_nil, List.cons_append, List.nil_append] at r86
    have s86 := r86.rsl
    change Row N86 _ 1 a86 1 1 (u8s [1]) at r86
    have s86 := r86.rsl
    refine At.perm sel9 ?_
    refine At.perm sel9 ?_
    refine At.perm sel9 ?_
    refine At.perm sel9 ?_
    refine At.perm sel9 ?_
    refine At.perm sel9 ?_
    refine At.perm sel9 ?_
    refine At.perm sel7 ?_
    refine At.perm sel9 ?_
    refine At.perm sel9 ?_
    refine op_call (nxl rfl) (.cons rfl (.cons rfl .nil)) (LoanBytes_f hL s86 (by omega) (by omega)) (F := [N86, NB, NJ, M32, M29, M26, N1, R]) Try.func99 rfl rfl (.refl _) (by simp) rfl ?_
    rintro v87 L87 ⟨NL, NI, p87, c87, rfl, rfl, hL, le87, s87⟩
    change At _ _ _ [NL, NI, N86, NB, NJ, M32, M29, M26, N1, R] _
    have s84 := s84.le le87
    refine op_callA (nxla rfl) (.cons rfl (.cons rfl .nil)) (NMul_f s84 s87 (by omega) (by omega)) Try.func69 rfl rfl (by simp) rfl ?_
    rintro v88 L88 ⟨M88, p88, c88, rfl, rfl, r88⟩
    change At _ _ _ [M88, NL, NI, N86, NB, NJ, M32, M29, M26, N1, R] _
    refine At.perm sel10 ?_
    refine At.perm sel10 ?_
    refine At.perm sel10 ?_
    refine At.perm sel10 ?_
    refine At.perm sel10 ?_
    refine At.perm sel8 ?_
    refine At.perm sel8 ?_
    refine At.perm sel8 ?_
    refine At.perm sel8 ?_
    refine At.perm sel10 ?_
    refine At.perm sel10 ?_
    refine op_call (nxl rfl) (.cons rfl (.cons rfl .nil)) (BookBytes_f hB r88 (by omega)) (F := [NL, NI, N86, M32, M29, M26, N1, R]) Try.func98 rfl rfl (.refl _) (by simp) rfl ?_
    rintro v89 L89 ⟨rfl, NB, NJ, rfl, hB⟩
    change At _ _ _ [NB, NJ, NL, NI, N86, M32, M29, M26, N1, R] _
    skip
    refine At.opsNil ?_
    refine At.norm (hk_17 ?_)
    refine At.seq fun K18 hk_18 => ?_
    refine At.region ?_
    refine op_move (nxlf rfl) rfl rfl ?_
    refine op_move (nxlf rfl) rfl rfl ?_
    refine At.perm sel9 ?_
    refine At.perm sel9 ?_
    refine At.perm sel9 ?_
    refine At.perm sel9 ?_
    refine At.perm sel9 ?_
    refine At.perm sel9 ?_
    refine At.perm sel7 ?_
    refine At.perm sel7 ?_
    refine At.perm sel9 ?_
    refine At.perm sel9 ?_
    refine op_call (nxl rfl) (.cons rfl (.cons rfl .nil)) (LoanBytes_f hL s26 (by omega) (by omega)) (F := [NB, NJ, N86, M32, M29, M26, N1, R]) Try.func99 rfl rfl (.refl _) (by simp) rfl ?_
    rintro v93 L93 ⟨NL, NI, p93, c93, rfl, rfl, hL, le93, s93⟩
    change At _ _ _ [NL, NI, NB, NJ, N86, M32, M29, M26, N1, R] _
    skip
    refine op_move (nxlf rfl) rfl rfl ?_
    refine op_move (nxlf rfl) rfl rfl ?_
    refine op_call (nxl rfl) (.cons rfl (.cons rfl .nil)) (LoanBytes_f hL s29 (by omega) (by omega)) (F := [NB, NJ, N86, M32, M29, M26, N1, R]) Try.func99 rfl rfl (.refl _) (by simp) rfl ?_
    rintro v96 L96 ⟨NL, NI, p96, c96, rfl, rfl, hL, le96, s96⟩
    change At _ _ _ [NL, NI, NB, NJ, N86, M32, M29, M26, N1, R] _
    have s93 := s93.le le96
    refine op_callA (nxla rfl) (.cons rfl (.cons rfl .nil)) (NDivMod_o s93 s96 (by omega) (by omega)) Try.func39 rfl rfl (by simp) rfl ?_
    rintro v97 L97 ⟨Mq, pq, nq, cq, lq, Mr, pr, nr, cr, lr, okk, rfl, rfl, rq, rr, bq, br⟩
    change At _ _ _ [Mq, Mr, NL, NI, NB, NJ, N86, M32, M29, M26, N1, R] _
    refine op_move (nxlf rfl) rfl rfl ?_
    refine op_extract (nxlf rfl) rfl rfl rfl ?_
    refine op_extract (nxlf rfl) rfl rfl rfl ?_
    refine op_extract (nxlf rfl) rfl rfl rfl ?_
    refine op_assign (nxlf rfl) rfl rfl ?_
    refine op_assign (nxlf rfl) rfl rfl ?_
    refine op_assign (nxlf rfl) rfl rfl ?_
    refine At.opsNil ?_
    refine At.norm (hk_18 ?_)
    refine At.seq fun K19 hk_19 => ?_
    refine At.region ?_
    refine op_move (nxlf rfl) rfl rfl ?_
    refine op_move (nxlf rfl) rfl rfl ?_
    refine At.perm sel11 ?_
    refine At.perm sel11 ?_
    refine At.perm sel11 ?_
    refine At.perm sel11 ?_
    refine At.perm sel11 ?_
    refine At.perm sel11 ?_
    refine At.perm sel9 ?_
    refine At.perm sel9 ?_
    refine At.perm sel9 ?_
    refine At.perm sel9 ?_
    refine At.perm sel11 ?_
    refine At.perm sel11 ?_
    refine op_call (nxl rfl) (.cons rfl (.cons rfl .nil)) (BookBytes_f hB rq (by omega)) (F := [Mr, NL, NI, N86, M32, M29, M26, N1, R]) Try.func98 rfl rfl (.refl _) (by simp) rfl ?_
    rintro v103 L103 ⟨rfl, NB, NJ, rfl, hB⟩
    change At _ _ _ [NB, NJ, Mr, NL, NI, N86, M32, M29, M26, N1, R] _
    skip
    refine At.opsNil ?_
    refine At.norm (hk_19 ?_)
    refine At.seq fun K20 hk_20 => ?_
    refine At.region ?_
    refine op_move (nxlf rfl) rfl rfl ?_
    refine op_move (nxlf rfl) rfl rfl ?_
    refine op_call (nxl rfl) (.cons rfl (.cons rfl .nil)) (BookBytes_f hB rr (by omega)) (F := [NL, NI, N86, M32, M29, M26, N1, R]) Try.func98 rfl rfl (.refl _) (by simp) rfl ?_
    rintro v106 L106 ⟨rfl, NB, NJ, rfl, hB⟩
    change At _ _ _ [NB, NJ, NL, NI, N86, M32, M29, M26, N1, R] _
    skip
    refine At.opsNil ?_
    refine At.norm (hk_20 ?_)
    refine At.seq fun K21 hk_21 => ?_
    refine At.region ?_
    refine op_move (nxlf rfl) rfl rfl ?_
    refine op_move (nxlf rfl) rfl rfl ?_
    refine op_move (nxlf rfl) rfl rfl ?_
    refine At.perm sel9 ?_
    refine At.perm sel9 ?_
    refine At.perm sel9 ?_
    refine At.perm sel9 ?_
    refine At.perm sel9 ?_
    refine At.perm sel9 ?_
    refine At.perm sel7 ?_
    refine At.perm sel7 ?_
    refine At.perm sel9 ?_
    refine At.perm sel9 ?_
    refine op_call (nxl rfl) (.cons rfl (.cons rfl .nil)) (LoanBytes_f hL s32 (by omega) (by omega)) (F := [NB, NJ, N86, M32, M29, M26, N1, R]) Try.func99 rfl rfl (.refl _) (by simp) rfl ?_
    rintro v110 L110 ⟨NL, NI, p110, c110, rfl, rfl, hL, le110, s110⟩
    change At _ _ _ [NL, NI, NB, NJ, N86, M32, M29, M26, N1, R] _
    skip
    refine op_move (nxlf rfl) rfl rfl ?_
    refine op_lit (nxla rfl) Try.underlying34 ze5 sz5 (.cons rfl .nil) rfl rfl (by simp [Value.cells]) rfl rfl rfl (fun N112 a112 r112 => ?_)
    simp only [flatV, List.flatMap_cons, List.flatMap_nil, Value.cells, List.append_nil, List.cons_append, List.nil_append] at r112
    have s112 := r112.rsl
    change Row N112 _ 1 a112 1 1 (u8s [1]) at r112
    have s112 := r112.rsl
    refine At.perm sel10 ?_
    refine At.perm sel10 ?_
    refine At.perm sel10 ?_
    refine At.perm sel10 ?_
    refine At.perm sel10 ?_
    refine At.perm sel10 ?_
    refine At.perm sel10 ?_
    refine At.perm sel10 ?_
    refine At.perm sel8 ?_
    refine At.perm sel10 ?_
    refine At.perm sel10 ?_
    refine op_call (nxl rfl) (.cons rfl (.cons rfl .nil)) (LoanBytes_f hL s112 (by omega) (by omega)) (F := [N112, NB, NJ, N86, M32, M29, M26, N1, R]) Try.func99 rfl rfl (.refl _) (by simp) rfl ?_
    rintro v113 L113 ⟨NL, NI, p113, c113, rfl, rfl, hL, le113, s113⟩
    change At _ _ _ [NL, NI, N112, NB, NJ, N86, M32, M29, M26, N1, R] _
    have s110 := s110.le le113
    refine op_move (nxlf rfl) rfl rfl ?_
    refine op_move (nxlf rfl) rfl rfl ?_
    refine op_call (nxl rfl) (.cons rfl (.cons rfl .nil)) (LoanBytes_f hL s32 (by omega) (by omega)) (F := [N112, NB, NJ, N86, M32, M29, M26, N1, R]) Try.func99 rfl rfl (.refl _) (by simp) rfl ?_
    rintro v116 L116 ⟨NL, NI, p116, c116, rfl, rfl, hL, le116, s116⟩
    change At _ _ _ [NL, NI, N112, NB, NJ, N86, M32, M29, M26, N1, R] _
    have s110 := s110.le le116; have s113 := s113.le le116
    refine op_callA (nxla rfl) (.cons rfl (.cons rfl (.cons rfl .nil))) (NModExp_o s110 s113 s116 (by omega) (by omega) (by omega)) Try.func44 rfl rfl (by simp) rfl ?_
    rintro v117 L117 ⟨M117, p117, n117, c117, l117, rfl, rfl, r117, b117⟩
    change At _ _ _ [M117, NL, NI, N112, NB, NJ, N86, M32, M29, M26, N1, R] _
    refine At.perm sel11 ?_
    refine At.perm sel11 ?_
    refine At.perm sel11 ?_
    refine At.perm sel11 ?_
    refine At.perm sel11 ?_
    refine At.perm sel11 ?_
    refine At.perm sel9 ?_
    refine At.perm sel9 ?_
    refine At.perm sel9 ?_
    refine At.perm sel9 ?_
    refine At.perm sel11 ?_
    refine At.perm sel11 ?_
    refine op_call (nxl rfl) (.cons rfl (.cons rfl .nil)) (BookBytes_f hB r117 (by omega)) (F := [NL, NI, N112, N86, M32, M29, M26, N1, R]) Try.func98 rfl rfl (.refl _) (by simp) rfl ?_
    rintro v118 L118 ⟨rfl, NB, NJ, rfl, hB⟩
    change At _ _ _ [NB, NJ, NL, NI, N112, N86, M32, M29, M26, N1, R] _
    skip
    refine At.opsNil ?_
    refine At.norm (hk_21 ?_)
    refine At.seq fun K22 hk_22 => ?_
    refine At.region ?_
    refine op_move (nxlf rfl) rfl rfl ?_
    refine op_move (nxlf rfl) rfl rfl ?_
    refine At.perm sel10 ?_
    refine At.perm sel10 ?_
    refine At.perm sel10 ?_
    refine At.perm sel10 ?_
    refine At.perm sel10 ?_
    refine At.perm sel10 ?_
    refine At.perm sel10 ?_
    refine At.perm sel8 ?_
    refine At.perm sel8 ?_
    refine At.perm sel10 ?_
    refine At.perm sel10 ?_
    refine op_call (nxl rfl) (.cons rfl (.cons rfl .nil)) (LoanBytes_f hL s26 (by omega) (by omega)) (F := [NB, NJ, N112, N86, M32, M29, M26, N1, R]) Try.func99 rfl rfl (.refl _) (by simp) rfl ?_
    rintro v122 L122 ⟨NL, NI, p122, c122, rfl, rfl, hL, le122, s122⟩
    change At _ _ _ [NL, NI, NB, NJ, N112, N86, M32, M29, M26, N1, R] _
    skip
    refine op_move (nxlf rfl) rfl rfl ?_
    refine op_lenS (nxlf rfl) se34 rfl rfl ?_
    refine op_callA (nxla rfl) (.cons rfl (.cons rfl .nil)) (NFill_f s122 (by omega) (by omega) (by have := bytes_be x; omega)) Try.func72 rfl rfl (by simp) rfl ?_
    rintro v125 L125 ⟨M125, p125, c125, rfl, rfl, r125⟩
    change At _ _ _ [M125, NL, NI, NB, NJ, N112, N86, M32, M29, M26, N1, R] _
    refine op_move (nxlf rfl) rfl rfl ?_
    refine op_extract (nxlf rfl) rfl rfl rfl ?_
    refine op_extract (nxlf rfl) rfl rfl rfl ?_
    refine op_assign (nxlf rfl) rfl rfl ?_
    refine op_assign (nxlf rfl) rfl rfl ?_
    refine At.opsNil ?_
    refine At.norm (hk_22 ?_)
    refine At.seq fun K23 hk_23 => ?_
    refine At.region ?_
    refine op_move (nxlf rfl) rfl rfl ?_
    refine op_move (nxlf rfl) rfl rfl ?_
    refine At.perm sel11 ?_
    refine At.perm sel11 ?_
    refine At.perm sel11 ?_
    refine At.perm sel11 ?_
    refine At.perm sel11 ?_
    refine At.perm sel11 ?_
    refine At.perm sel11 ?_
    refine At.perm sel9 ?_
    refine At.perm sel9 ?_
    refine At.perm sel9 ?_
    refine At.perm sel11 ?_
    refine At.perm sel11 ?_
    refine op_call (nxl rfl) (.cons rfl (.cons rfl .nil)) (BookBytes_f hB r125 (by omega)) (F := [NL, NI, N112, N86, M32, M29, M26, N1, R]) Try.func98 rfl rfl (.refl _) (by simp) rfl ?_
    rintro v130 L130 ⟨rfl, NB, NJ, rfl, hB⟩
    change At _ _ _ [NB, NJ, NL, NI, N112, N86, M32, M29, M26, N1, R] _
    skip
    refine At.opsNil ?_
    refine At.norm (hk_23 ?_)
    refine At.seq fun K24 hk_24 => ?_
    refine At.region ?_
    refine op_move (nxlf rfl) rfl rfl ?_
    refine op_move (nxlf rfl) rfl rfl ?_
    refine At.perm sel10 ?_
    refine At.perm sel10 ?_
    refine At.perm sel10 ?_
    refine At.perm sel10 ?_
    refine At.perm sel10 ?_
    refine At.perm sel10 ?_
    refine At.perm sel10 ?_
    refine At.perm sel8 ?_
    refine At.perm sel8 ?_
    refine At.perm sel10 ?_
    refine At.perm sel10 ?_
    refine op_call (nxl rfl) (.cons rfl (.cons rfl .nil)) (LoanBytes_f hL s26 (by omega) (by omega)) (F := [NB, NJ, N112, N86, M32, M29, M26, N1, R]) Try.func99 rfl rfl (.refl _) (by simp) rfl ?_
    rintro v133 L133 ⟨NL, NI, p133, c133, rfl, rfl, hL, le133, s133⟩
    change At _ _ _ [NL, NI, NB, NJ, N112, N86, M32, M29, M26, N1, R] _
    skip
    refine op_move (nxlf rfl) rfl rfl ?_
    refine op_move (nxlf rfl) rfl rfl ?_
    refine op_call (nxl rfl) (.cons rfl (.cons rfl .nil)) (LoanBytes_f hL s29 (by omega) (by omega)) (F := [NB, NJ, N112, N86, M32, M29, M26, N1, R]) Try.func99 rfl rfl (.refl _) (by simp) rfl ?_
    rintro v136 L136 ⟨NL, NI, p136, c136, rfl, rfl, hL, le136, s136⟩
    change At _ _ _ [NL, NI, NB, NJ, N112, N86, M32, M29, M26, N1, R] _
    have s133 := s133.le le136
    refine op_callA (nxla rfl) (.cons rfl (.cons rfl .nil)) (NCmp_f s133 s136 (by omega) (by omega)) Try.func75 rfl rfl (by simp) rfl ?_
    rintro v137 L137 ⟨rfl, rfl⟩
    change At _ _ _ [NL, NI, NB, NJ, N112, N86, M32, M29, M26, N1, R] _
    refine At.opsNil ?_
    refine At.norm (hk_24 ?_)
    refine At.seq fun K25 hk_25 => ?_
    refine At.region ?_
    refine op_move (nxlf rfl) rfl rfl ?_
    refine op_move (nxlf rfl) rfl rfl ?_
    refine op_call (nxl rfl) (.cons rfl (.cons rfl .nil)) (LoanBytes_f hL s26 (by omega) (by omega)) (F := [NB, NJ, N112, N86, M32, M29, M26, N1, R]) Try.func99 rfl rfl (.refl _) (by simp) rfl ?_
    rintro v140 L140 ⟨NL, NI, p140, c140, rfl, rfl, hL, le140, s140⟩
    change At _ _ _ [NL, NI, NB, NJ, N112, N86, M32, M29, M26, N1, R] _
    skip
    refine op_callA (nxla rfl) (.cons rfl .nil) (NBits_f s140 (by omega)) Try.func77 rfl rfl (by simp) rfl ?_
    rintro v141 L141 ⟨rfl, rfl⟩
    change At _ _ _ [NL, NI, NB, NJ, N112, N86, M32, M29, M26, N1, R] _
    refine At.opsNil ?_
    refine At.norm (hk_25 ?_)
    refine At.region ?_
    refine op_move (nxlf rfl) rfl rfl ?_
    refine op_move (nxlf rfl) rfl rfl ?_
    refine op_call (nxl rfl) (.cons rfl (.cons rfl .nil)) (LoanBytes_f hL s26 (by omega) (by omega)) (F := [NB, NJ, N112, N86, M32, M29, M26, N1, R]) Try.func99 rfl rfl (.refl _) (by simp) rfl ?_
    rintro v144 L144 ⟨NL, NI, p144, c144, rfl, rfl, hL, le144, s144⟩
    change At _ _ _ [NL, NI, NB, NJ, N112, N86, M32, M29, M26, N1, R] _
    skip
    refine op_callA (nxla rfl) (.cons rfl (.cons rfl .nil)) (NBit_f s144 (by omega) 3 (by omega)) Try.func78 rfl rfl (by simp) rfl ?_
    rintro v145 L145 ⟨rfl, rfl⟩
    change At _ _ _ [NL, NI, NB, NJ, N112, N86, M32, M29, M26, N1, R] _
    refine At.opsNil ?_
    refine At.inNorm ?_
    refine At.norm (hk_8 ?_)
    refine At.region ?_
    refine op_move (nxlf rfl) rfl rfl ?_
    refine op_addI (nxlf rfl) rfl rfl (by omega) (by omega) rfl ?_
    refine op_assign (nxlf rfl) rfl rfl ?_
    refine At.opsNil ?_
    refine At.norm ?_
    refine At.sub (L' := [NL, NI, NB, NJ, N1, R]) (.cons_cons _ (.cons_cons _ (.cons_cons _ (.cons_cons _ (.cons _ (.cons _ (.cons _ (.cons _ (.cons _ (.cons_cons _ (.cons_cons _ (.slnil)))))))))))) ?_
    refine At.perm sel5 ?_
    refine At.perm sel4 ?_
    refine At.perm sel4 ?_
    refine At.perm sel4 ?_
    refine At.perm sel4 ?_
    refine At.perm sel5 ?_
    refine At.back ?_ (.refl _) ⟨i + 1, NL, NI, NB, NJ, rfl, rfl, rfl, by omega, hL.mono (by omega), hB⟩ ?_
    · exact .cons (by first | exact lkI rfl (by omega) | rfl) (.cons (by first | exact lkI rfl (by omega) | rfl) (.cons (by first | exact lkI rfl (by omega) | rfl) (.cons (by first | exact lkI rfl (by omega) | rfl) .nil)))
    · omega
  · refine At.exit (At.thenExit (At.thenExit (At.inHit ?_)))
    refine At.norm (hk_4 ?_)
    refine At.seq fun K26 hk_26 => ?_
    refine At.region ?_
    refine op_move (nxlf rfl) rfl rfl ?_
    refine At.perm sel5 ?_
    refine At.perm sel5 ?_
    refine At.perm sel5 ?_
    refine At.perm sel3 ?_
    refine At.perm sel5 ?_
    refine At.perm sel5 ?_
    refine op_call (nxl rfl) (.cons rfl .nil) (LoanBack_f hL) (F := [N1, NB, NJ, R]) Try.func100 rfl rfl (.refl _) (by simp) rfl ?_
    rintro v147 L147 ⟨rfl, rfl⟩
    change At _ _ _ [N1, NB, NJ, R] _
    skip
    refine op_move (nxlf rfl) rfl rfl ?_
    refine op_move (nxgf rfl rfl rfl rfl) rfl rfl ?_
    refine At.perm sel3 ?_
    refine At.perm sel1 ?_
    refine At.perm sel3 ?_
    refine At.perm sel3 ?_
    refine op_call (nxg rfl rfl rfl rfl) (.cons rfl .nil) (BookClose_f hB) (F := [N1, R]) Try.func101 rfl rfl (.refl _) (by simp) rfl ?_
    rintro v150 L150 ⟨rfl, rfl⟩
    change At _ _ _ [N1, R] _
    skip
    refine op_pickT (nxlf rfl) rfl rfl rfl ?_
    refine op_move (nxlf rfl) rfl rfl ?_
    refine op_callA (nxga rfl rfl rfl rfl) .nil (Nwakes_f) Try.func40 rfl rfl (by simp) rfl ?_
    rintro v153 L153 ⟨rfl, rfl⟩
    change At _ _ _ [N1, R] _
    refine op_pickT (nxlf rfl) rfl rfl rfl ?_
    refine op_assign (nxlf rfl) rfl rfl ?_
    refine At.opsNil ?_
    refine At.norm (hk_26 ?_)
    refine At.ret (?_)
    refine At.sub (L' := [R]) (.cons _ (.cons_cons _ (.slnil))) ?_
    refine At.ret1 (L1 := []) rfl (.tmp rfl .nil) (.refl _) (.refl _) ?_
    exact ⟨rfl, rfl⟩
end Go.Proofs.Ytefljbbpaideaaa
