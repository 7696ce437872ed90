/- The statement FnGlobs over numbers and lists alone: a drawn text is fitted by itself with points for some bytes, a star more takes no fit away. No condition. -/
import Derived.Test.YtimfdodgecehgaaQFnGlobsx5
import Derived.Laws.BitsAllLaws
import Derived.Laws.Bits64
import Derived.Laws.Strings
set_option linter.all false
namespace Go.Proofs.Ytimfdodgecehgaa.Pure
open Go.RowKit Go.Proofs.Ytimfdodgecehgaa.QFnGlobs Go.Proofs.YtimfdodgecehgaaW.PrintWords Go.Proofs.YtimfdodgecehgaaW.PrintLast Go.Proofs.YtimfdodgecehgaaW.PrintMore

/-! Small lemmas on wraps, rounds and lists. -/
theorem wrap64_id {x : Int} (h0 : -9223372036854775808 ≤ x) (h1 : x < 9223372036854775808) : wrap64 x = x := by unfold wrap64; omega
theorem u64_id {x : Int} (h0 : 0 ≤ x) (h1 : x < 18446744073709551616) : IntKind.u64.wrap x = x := by rw [IntKind.wrap_u64]; omega
theorem Ev.pos {α : Type} {c : Prop} [Decidable c] {f g : Nat → Option α} {r : α} (h : c) (e : Ev f r) : Ev (fun k => if c then f k else g k) r := by simpa [h] using e
theorem Ev.neg {α : Type} {c : Prop} [Decidable c] {f g : Nat → Option α} {r : α} (h : ¬ c) (e : Ev g r) : Ev (fun k => if c then f k else g k) r := by simpa [h] using e
theorem Ev.bindS {α β : Type} {g : Option α} {f : Nat → α → Option β} {a : α} {r : β} (h : g = some a) (e : Ev (fun k => f k a) r) : Ev (fun k => g.bind (f k)) r := by subst h; simpa using e
theorem Ev.give {α : Type} {r s : α} (h : s = r) : Ev (fun _ => some s) r := by subst h; exact Ev.now _
theorem bt_drop (s : ByteArray) (i : Nat) (h : i < s.size) : ∃ c : UInt8, s.data.toList.drop i = c :: s.data.toList.drop (i + 1) ∧ bt s (i : Int) = (c.toNat : Int) := by
  have hl : i < s.data.toList.length := by simpa using h
  refine ⟨s.data.toList[i], List.drop_eq_getElem_cons hl, ?_⟩
  unfold bt
  rw [dif_pos (by simpa using h)]
  simp [ByteArray.getElem_eq_getElem_data]
theorem drop_end (s : ByteArray) (i : Nat) (h : s.size ≤ i) : s.data.toList.drop i = [] := List.drop_eq_nil_of_le (by simpa using h)
theorem size_strOfNums (l : List Int) : (strOfNums l).size = l.length := by
  show (strOfNums l).data.size = l.length
  simp [strOfNums]
theorem i64_range {n : Int} (h : (Lit.int .i64 n).wf = true) : -9223372036854775808 ≤ n ∧ n < 9223372036854775808 := by
  simp only [Lit.wf, IntKind.min, IntKind.max, IntKind.signed, IntKind.bits, Bool.and_eq_true, decide_eq_true_eq, if_true] at h; omega
theorem byte_eq_int (c d : UInt8) : ((c.toNat : Int) = (d.toNat : Int)) ↔ c = d := by
  constructor
  · intro h; exact UInt8.toNat_inj.1 (by omega)
  · rintro rfl; rfl
theorem byte_eq_lit (c : UInt8) (n : Nat) (hn : n < 256) : ((c.toNat : Int) = (n : Int)) ↔ c = UInt8.ofNat n := by
  rw [← byte_eq_int]
  have : (UInt8.ofNat n).toNat = n := by simp [UInt8.toNat_ofNat']; omega
  rw [this]
theorem bt_get (s : ByteArray) (i : Nat) (h : i < s.size) : ∃ c : UInt8, s.data.toList[i]? = some c ∧ bt s (i : Int) = (c.toNat : Int) := by
  obtain ⟨c, e, hb⟩ := bt_drop s i h
  refine ⟨c, ?_, hb⟩
  have : (s.data.toList.drop i)[0]? = some c := by rw [e]; rfl
  simpa using this

/-! Bytes as the program's numbers, and as texts. -/
def bI (o : List UInt8) : List Int := o.map fun c => (c.toNat : Int)
def mkB (o : List UInt8) : ByteArray := ⟨o.toArray⟩
theorem strOf_bI (o : List UInt8) : strOfNums (bI o) = mkB o := by
  unfold strOfNums bI mkB
  congr 1
  rw [List.map_map]
  congr 1
  conv => rhs; rw [← List.map_id o]
  apply List.map_congr_left
  intro c _
  simp
theorem bI_snoc (o : List UInt8) (c : UInt8) : bI o ++ [(c.toNat : Int)] = bI (o ++ [c]) := by simp [bI]
theorem bI_app (o p : List UInt8) : bI o ++ bI p = bI (o ++ p) := by simp [bI]
theorem bI_length (o : List UInt8) : (bI o).length = o.length := by simp [bI]
theorem mkB_list (o : List UInt8) : (mkB o).data.toList = o := rfl
theorem mkB_toList (o : List UInt8) : (mkB o).toList = o := by rw [ByteArray.toList_eq]; rfl
theorem mkB_size (o : List UInt8) : (mkB o).size = o.length := by show o.toArray.size = _; simp
theorem mkB_data (s : ByteArray) : mkB s.data.toList = s := by unfold mkB; simp
theorem data_len (s : ByteArray) : s.data.toList.length = s.size := by simp
/-- Two bytes on, where there are. -/
theorem bt_next (s : ByteArray) (i : Nat) (h : i < s.size) : ∃ c : UInt8, s.data.toList.drop i = c :: s.data.toList.drop (i + 1) ∧ bt s (i : Int) = (c.toNat : Int) := bt_drop s i h

/-! Draws: a number out of a code, at a place. -/
def Bytes8 (l : List Int) : Prop := ∀ x ∈ l, (Lit.int .u8 x).wf = true
theorem u8_in {x : Int} (h : (Lit.int .u8 x).wf = true) : 0 ≤ x ∧ x < 256 := by
  simp only [Lit.wf, IntKind.min, IntKind.max, IntKind.signed, IntKind.bits, Bool.and_eq_true, decide_eq_true_eq] at h
  simp at h
  omega
def codeAt (l : List Int) (i : Nat) : Nat := (rd l (i : Int)).toNat
theorem codeAt_ok (l : List Int) (hl : Bytes8 l) (i : Nat) (h : i < l.length) : rd l (i : Int) = ((codeAt l i : Nat) : Int) ∧ codeAt l i < 256 := by
  have hr : rd l (i : Int) = l[i] := by unfold rd; rw [Int.toNat_natCast, List.getD_eq_getElem?_getD, List.getElem?_eq_getElem h]; rfl
  have := u8_in (hl _ (List.getElem_mem h))
  unfold codeAt
  rw [hr]
  omega
def drawV (l : List Int) (a most : Nat) : Nat :=
  if most = 0 then 0 else if l.length = 0 then a * 7 % most else
    if most > 200 then ((codeAt l (a % l.length) + a / l.length * 37) * 251 + codeAt l ((a + 1) % l.length) * 13 + a) % most
    else (codeAt l (a % l.length) + a / l.length * 37) % most
theorem drawV_lt (l : List Int) (a most : Nat) (h : 0 < most) : drawV l a most < most := by
  unfold drawV
  rw [if_neg (by omega)]
  split
  · exact Nat.mod_lt _ h
  · split
    · exact Nat.mod_lt _ h
    · exact Nat.mod_lt _ h
theorem draw_small (c q most : Nat) (hc : c < 256) (hq : q < 1099511627776) : Int.tmod (wrap64 ((wrap64 (c : Int)) + (wrap64 ((wrap64 (q : Int)) * 37)))) (most : Int) = (((c + q * 37) % most : Nat) : Int) := by
  rw [wrap64_id (x := (c : Int)) (by omega) (by omega), wrap64_id (x := (q : Int)) (by omega) (by omega), wrap64_id (x := (q : Int) * 37) (by omega) (by omega), wrap64_id (x := (c : Int) + (q : Int) * 37) (by omega) (by omega), Int.tmod_eq_emod_of_nonneg (by omega)]
  rfl
theorem draw_big (c q c1 a most : Nat) (hc : c < 256) (hc1 : c1 < 256) (hq : q < 1099511627776) (ha : a < 1099511627776) :
    Int.tmod (wrap64 ((wrap64 ((wrap64 ((wrap64 ((wrap64 (c : Int)) + (wrap64 ((wrap64 (q : Int)) * 37)))) * 251)) + (wrap64 ((wrap64 (c1 : Int)) * 13)))) + (a : Int))) (most : Int) = ((((c + q * 37) * 251 + c1 * 13 + a) % most : Nat) : Int) := by
  rw [wrap64_id (x := (c : Int)) (by omega) (by omega), wrap64_id (x := (q : Int)) (by omega) (by omega), wrap64_id (x := (q : Int) * 37) (by omega) (by omega), wrap64_id (x := (c : Int) + (q : Int) * 37) (by omega) (by omega),
    wrap64_id (x := ((c : Int) + (q : Int) * 37) * 251) (by omega) (by omega), wrap64_id (x := (c1 : Int)) (by omega) (by omega), wrap64_id (x := (c1 : Int) * 13) (by omega) (by omega), wrap64_id (x := ((c : Int) + (q : Int) * 37) * 251 + (c1 : Int) * 13) (by omega) (by omega),
    wrap64_id (x := ((c : Int) + (q : Int) * 37) * 251 + (c1 : Int) * 13 + (a : Int)) (by omega) (by omega), Int.tmod_eq_emod_of_nonneg (by omega)]
  rfl
theorem next_at (a : Nat) (ha : a < 1099511627776) : wrap64 ((a : Int) + 1) = ((a + 1 : Nat) : Int) := by rw [wrap64_id (by omega) (by omega)]; rfl
theorem back_at (a : Nat) (ha : a < 1099511627776) : wrap64 (wrap64 ((a : Int) + 1) - 1) = (a : Int) := by rw [wrap64_id (x := (a : Int) + 1) (by omega) (by omega), wrap64_id (by omega) (by omega)]; omega
theorem tmod_nat (a b : Nat) : Int.tmod (a : Int) (b : Int) = ((a % b : Nat) : Int) := by rw [Int.tmod_eq_emod_of_nonneg (by omega)]; rfl
theorem tdiv_nat (a b : Nat) : Int.tdiv (a : Int) (b : Int) = ((a / b : Nat) : Int) := by rw [Int.tdiv_eq_ediv_of_nonneg (by omega)]; rfl
theorem drawN_nil (l : List Int) (hk : l.length = 0) (a most : Nat) (ha : a < 1099511627776) (sz : Int) :
    spec_l01Src_n.f l (a : Int) sz (most : Int) = some (((drawV l a most : Nat) : Int), ((a + 1 : Nat) : Int), sz) := by
  unfold spec_l01Src_n.f drawV
  rw [back_at a ha, next_at a ha]
  by_cases h0 : most = 0
  · subst h0
    rw [if_pos (by omega), if_pos rfl]; rfl
  · rw [if_neg (by omega), if_neg h0, if_pos (by omega), if_neg (by omega), if_pos hk, wrap64_id (by omega) (by omega), Int.tmod_eq_emod_of_nonneg (by omega)]
    rfl
theorem drawN (l : List Int) (hl : Bytes8 l) (hlen : l.length ≤ 1048576) (a most : Nat) (ha : a < 1099511627776) (hm : most < 4611686018427387904) (sz : Int) :
    spec_l01Src_n.f l (a : Int) sz (most : Int) = some (((drawV l a most : Nat) : Int), ((a + 1 : Nat) : Int), sz) := by
  by_cases hk : l.length = 0
  · exact drawN_nil l hk a most ha sz
  · unfold spec_l01Src_n.f drawV
    rw [back_at a ha]
    by_cases h0 : most = 0
    · rw [if_pos (by omega), if_pos h0, next_at a ha]; rfl
    · have hkp : 0 < l.length := by omega
      obtain ⟨r0, b0⟩ := codeAt_ok l hl _ (Nat.mod_lt a hkp)
      obtain ⟨r1, b1⟩ := codeAt_ok l hl _ (Nat.mod_lt (a + 1) hkp)
      have hdl : a / l.length < 1099511627776 := Nat.lt_of_le_of_lt (Nat.div_le_self _ _) ha
      have m0 := Nat.mod_lt a hkp
      have m1 := Nat.mod_lt (a + 1) hkp
      rw [if_neg (by omega), if_neg h0, if_neg (by omega), if_neg hk, next_at a ha, tmod_nat, tmod_nat, tdiv_nat, r0, r1]
      generalize a % l.length = i0 at m0 b0 ⊢
      generalize (a + 1) % l.length = i1 at m1 b1 ⊢
      generalize a / l.length = q at hdl ⊢
      generalize codeAt l i0 = c0 at b0 ⊢
      generalize codeAt l i1 = c1 at b1 ⊢
      rw [if_pos (by omega), if_pos (by omega)]
      by_cases hbig : most > 200
      · rw [if_pos (by omega), if_pos (by omega), if_pos (by omega), if_neg (by omega), if_pos hbig, draw_big c0 q c1 a most b0 b1 hdl ha]
      · rw [if_neg (by omega), if_neg (by omega), if_neg hbig, draw_small c0 q most b0 hdl]
/-- A source: the code, and where its reading stands. -/
theorem source_ok (l : List Int) (hlen : l.length ≤ 1048576) : ∃ sz : Nat, sz ≤ 12 ∧ spec_l01Source.f l = some (l, 0, (sz : Int)) := by
  unfold spec_l01Source.f
  have h : wrap64 ((l.length : Int) / 16) = ((l.length / 16 : Nat) : Int) := by rw [wrap64_id (by omega) (by omega)]; rfl
  rw [h]
  by_cases h12 : ((l.length / 16 : Nat) : Int) > 12
  · rw [if_pos h12]; exact ⟨12, by omega, rfl⟩
  · rw [if_neg h12]; exact ⟨l.length / 16, by omega, rfl⟩
/-- What was drawn, kept out of arithmetic's sight. -/
structure Drew (l : List Int) (a most v : Nat) : Prop where mk ::
  out : drawV l a most = v
theorem drawE (l : List Int) (hl : Bytes8 l) (hlen : l.length ≤ 1048576) (a most : Nat) (h0 : 0 < most) (ha : a < 1099511627776) (hm : most < 4611686018427387904) (sz : Int) :
    ∃ v : Nat, v < most ∧ Drew l a most v ∧ spec_l01Src_n.f l (a : Int) sz (most : Int) = some ((v : Int), ((a + 1 : Nat) : Int), sz) :=
  ⟨drawV l a most, drawV_lt l a most h0, ⟨rfl⟩, drawN l hl hlen a most ha hm sz⟩

theorem drawOne (l : List Int) (hl : Bytes8 l) (hlen : l.length ≤ 1048576) (a most : Nat) (ha : a < 1099511627776) (hm : most < 4611686018427387904) (sz : Int) :
    spec_l01Src_one.f l (a : Int) sz (most : Int) = some (decide (drawV l a most = 0), ((a + 1 : Nat) : Int), sz) := by
  unfold spec_l01Src_one.f
  rw [drawN l hl hlen a most ha hm sz, Option.bind_some]
  have : (((drawV l a most : Nat) : Int) == 0) = decide (drawV l a most = 0) := by
    by_cases h : drawV l a most = 0
    · simp [h]
    · have : ¬ ((drawV l a most : Nat) : Int) = 0 := by omega
      simp [h, this]
  rw [this]
theorem oneE (l : List Int) (hl : Bytes8 l) (hlen : l.length ≤ 1048576) (a most : Nat) (ha : a < 1099511627776) (hm : most < 4611686018427387904) (sz : Int) :
    ∃ b : Bool, spec_l01Src_one.f l (a : Int) sz (most : Int) = some (b, ((a + 1 : Nat) : Int), sz) := ⟨_, drawOne l hl hlen a most ha hm sz⟩

/-- Drawn bytes: at most n of them. -/
theorem drawBytes_l0 (l : List Int) (hl : Bytes8 l) (hlen : l.length ≤ 1048576) (sz : Int) (n kind : Nat) (hn : n ≤ 1000000) (hk : kind < 6) : ∀ (d i : Nat) (o : List UInt8) (a : Nat), n - i = d → i ≤ n → o.length ≤ 3 * i → a + 2 * d < 1099511627776 →
    ∃ (s : ByteArray) (a' : Nat), Ev (fun k => spec_l01Src_bytes.l0 k (n : Int) (bI o) (kind : Int) (i : Int) l (a : Int) sz) (s, (a' : Int), sz) ∧ s.size ≤ n ∧ a ≤ a' ∧ a' ≤ a + 2 * d := by
  intro d
  induction d with
  | zero =>
    intro i o a hd hi ho ha
    have hin : i = n := by omega
    by_cases hlong : o.length > n
    · refine ⟨mkB (o.take n), a, ?_, by rw [mkB_size]; simp; omega, by omega, by omega⟩
      refine Ev.step (fun k => by rw [spec_l01Src_bytes.l0, if_neg (by omega), if_pos (by rw [bI_length]; omega), if_pos (by omega), if_pos (by omega), if_pos (by rw [bI_length]; omega), Int.toNat_natCast]) (Ev.give ?_)
      rw [show (bI o).take n = bI (o.take n) by simp [bI, List.map_take], strOf_bI]
    · refine ⟨mkB o, a, ?_, by rw [mkB_size]; omega, by omega, by omega⟩
      refine Ev.step (fun k => by rw [spec_l01Src_bytes.l0, if_neg (by omega), if_neg (by rw [bI_length]; omega), strOf_bI]) (Ev.now _)
  | succ d ih =>
    intro i o a hd hi ho ha
    have hw : wrap64 ((i : Int) + 1) = ((i + 1 : Nat) : Int) := by rw [wrap64_id (by omega) (by omega)]; rfl
    have byte : ∀ x : Nat, ∃ c : UInt8, ((x : Int) % 256) = (c.toNat : Int) := fun x => ⟨UInt8.ofNat x, by rw [UInt8.toNat_ofNat']; omega⟩
    by_cases h0 : kind = 0
    · have dn : spec_l01Src_n.f l ((a : Nat) : Int) sz 256 = some (((drawV l a 256 : Nat) : Int), ((a + 1 : Nat) : Int), sz) := drawN l hl hlen a 256 (by omega) (by omega) sz
      obtain ⟨c, hc⟩ := byte (drawV l a 256)
      obtain ⟨s, a', hE, h1, h2, h3⟩ := ih (i + 1) (o ++ [c]) (a + 1) (by omega) (by omega) (by simp; omega) (by omega)
      refine ⟨s, a', ?_, h1, by omega, by omega⟩
      exact Ev.step (fun k => by rw [spec_l01Src_bytes.l0, if_pos (by omega), if_pos (by omega), dn, Option.bind_some]; simp only; rw [if_pos (by rw [bI_length]; omega), hc, bI_snoc, hw]) hE
    · by_cases h1k : kind = 1
      · have dn : spec_l01Src_n.f l ((a : Nat) : Int) sz 9 = some (((drawV l a 9 : Nat) : Int), ((a + 1 : Nat) : Int), sz) := drawN l hl hlen a 9 (by omega) (by omega) sz
        have dl := drawV_lt l a 9 (by decide)
        obtain ⟨c, _, hc⟩ := bt_get (⟨#[32, 9, 61, 46, 13, 10, 45, 97, 95]⟩ : ByteArray) (drawV l a 9) (by exact dl)
        obtain ⟨s, a', hE, h1, h2, h3⟩ := ih (i + 1) (o ++ [c]) (a + 1) (by omega) (by omega) (by simp; omega) (by omega)
        refine ⟨s, a', ?_, h1, by omega, by omega⟩
        exact Ev.step (fun k => by rw [spec_l01Src_bytes.l0, if_pos (by omega), if_neg (by omega), if_pos (by omega), dn, Option.bind_some]; simp only; rw [if_pos (by omega), if_pos (by omega), if_pos (by rw [bI_length]; omega), hc, bI_snoc, hw]) hE
      · by_cases h2k : kind = 2
        · have dn : spec_l01Src_one.f l ((a : Nat) : Int) sz 12 = some (decide (drawV l a 12 = 0), ((a + 1 : Nat) : Int), sz) := drawOne l hl hlen a 12 (by omega) (by omega) sz
          have dm : spec_l01Src_n.f l (((a + 1) : Nat) : Int) sz 95 = some (((drawV l (a + 1) 95 : Nat) : Int), (((a + 1) + 1 : Nat) : Int), sz) := drawN l hl hlen (a + 1) 95 (by omega) (by omega) sz
          have dl := drawV_lt l (a + 1) 95 (by decide)
          obtain ⟨c, hc⟩ := byte (32 + drawV l (a + 1) 95)
          have hc' : (wrap64 (32 + ((drawV l (a + 1) 95 : Nat) : Int))) % 256 = (c.toNat : Int) := by rw [wrap64_id (by omega) (by omega), ← hc]; rfl
          by_cases hz : drawV l a 12 = 0
          · obtain ⟨s, a', hE, h1, h2, h3⟩ := ih (i + 1) (o ++ [13, 10] ++ [c]) (a + 2) (by omega) (by omega) (by simp; omega) (by omega)
            refine ⟨s, a', ?_, h1, by omega, by omega⟩
            exact Ev.step (fun k => by rw [spec_l01Src_bytes.l0, if_pos (by omega), if_neg (by omega), if_neg (by omega), if_pos (by omega), dn, Option.bind_some]; simp only; rw [if_pos (by simpa using hz), Option.bind_some, if_pos (by rw [bI_length]; simp; omega), Option.bind_some, show ([13, 10] : List Int) = bI [13, 10] from rfl, bI_app, dm, Option.bind_some]; simp only; rw [if_pos (by rw [bI_length]; simp; omega), hc', bI_snoc, hw]) hE
          · obtain ⟨s, a', hE, h1, h2, h3⟩ := ih (i + 1) (o ++ [c]) (a + 2) (by omega) (by omega) (by simp; omega) (by omega)
            refine ⟨s, a', ?_, h1, by omega, by omega⟩
            exact Ev.step (fun k => by rw [spec_l01Src_bytes.l0, if_pos (by omega), if_neg (by omega), if_neg (by omega), if_pos (by omega), dn, Option.bind_some]; simp only; rw [if_neg (by simpa using hz), dm, Option.bind_some]; simp only; rw [if_pos (by rw [bI_length]; omega), hc', bI_snoc, hw]) hE
        · have dn : spec_l01Src_n.f l ((a : Nat) : Int) sz 23 = some (((drawV l a 23 : Nat) : Int), ((a + 1 : Nat) : Int), sz) := drawN l hl hlen a 23 (by omega) (by omega) sz
          have dl := drawV_lt l a 23 (by decide)
          obtain ⟨c, _, hc⟩ := bt_get (⟨#[97, 98, 99, 100, 101, 102, 103, 104, 32, 105, 106, 107, 108, 109, 110, 111, 112, 46, 32, 101, 116, 97, 111]⟩ : ByteArray) (drawV l a 23) (by exact dl)
          obtain ⟨s, a', hE, h1, h2, h3⟩ := ih (i + 1) (o ++ [c]) (a + 1) (by omega) (by omega) (by simp; omega) (by omega)
          refine ⟨s, a', ?_, h1, by omega, by omega⟩
          exact Ev.step (fun k => by rw [spec_l01Src_bytes.l0, if_pos (by omega), if_neg (by omega), if_neg (by omega), if_neg (by omega), dn, Option.bind_some]; simp only; rw [if_pos (by omega), if_pos (by omega), if_pos (by rw [bI_length]; omega), hc, bI_snoc, hw]) hE
theorem drawBytes (l : List Int) (hl : Bytes8 l) (hlen : l.length ≤ 1048576) (sz : Int) (n : Nat) (hn : n ≤ 1000000) (a : Nat) (ha : a < 1000000000000) :
    ∃ (s : ByteArray) (a' : Nat), Ev (fun k => spec_l01Src_bytes.f k l (a : Int) sz (n : Int)) (s, (a' : Int), sz) ∧ s.size ≤ n ∧ a ≤ a' ∧ a' ≤ a + 1 + 2 * n := by
  have dn : spec_l01Src_n.f l ((a : Nat) : Int) sz 6 = some (((drawV l a 6 : Nat) : Int), ((a + 1 : Nat) : Int), sz) := drawN l hl hlen a 6 (by omega) (by omega) sz
  have dl := drawV_lt l a 6 (by decide)
  obtain ⟨s, a', hE, h1, h2, h3⟩ := drawBytes_l0 l hl hlen sz n (drawV l a 6) hn dl n 0 [] (a + 1) (by omega) (by omega) (by simp) (by omega)
  refine ⟨s, a', ?_, h1, by omega, by omega⟩
  exact Ev.congr (fun k => by rw [spec_l01Src_bytes.f, dn, Option.bind_some]; rfl) hE

/-- A text turned in one place. -/
theorem drawSpoil (l : List Int) (hl : Bytes8 l) (hlen : l.length ≤ 1048576) (sz : Int) (t : ByteArray) (ht : t.size ≤ 1000000000000) (a : Nat) (ha : a < 900000000000) :
    ∃ (s : ByteArray) (a' : Nat), Ev (fun k => spec_l01Src_spoil.f k l (a : Int) sz t) (s, (a' : Int), sz) ∧ s.size ≤ t.size + 3 ∧ a ≤ a' ∧ a' ≤ a + 20 := by
  by_cases h0 : t.size = 0
  · have dn : spec_l01Src_n.f l (a : Int) sz 3 = some (((drawV l a 3 : Nat) : Int), ((a + 1 : Nat) : Int), sz) := drawN l hl hlen a 3 (by omega) (by omega) sz
    have dl := drawV_lt l a 3 (by decide)
    obtain ⟨s, a', hE, h1, h2, h3⟩ := drawBytes l hl hlen sz (1 + drawV l a 3) (by omega) (a + 1) (by omega)
    refine ⟨s, a', ?_, by omega, by omega, by omega⟩
    refine Ev.congr (fun k => by rw [spec_l01Src_spoil.f, if_pos (by omega), dn, Option.bind_some]) ?_
    simp only
    rw [show wrap64 (1 + ((drawV l a 3 : Nat) : Int)) = ((1 + drawV l a 3 : Nat) : Int) by rw [wrap64_id (by omega) (by omega)]; rfl]
    exact Ev.bind hE (Ev.now _)
  · have dn := drawN l hl hlen a t.size (by omega) (by omega) sz
    have dl := drawV_lt l a t.size (by omega)
    have dn2 : spec_l01Src_n.f l ((a + 1 : Nat) : Int) sz 4 = some (((drawV l (a + 1) 4 : Nat) : Int), ((a + 1 + 1 : Nat) : Int), sz) := drawN l hl hlen (a + 1) 4 (by omega) (by omega) sz
    have dl2 := drawV_lt l (a + 1) 4 (by decide)
    have dn3 : spec_l01Src_n.f l ((a + 1 + 1 : Nat) : Int) sz 3 = some (((drawV l (a + 1 + 1) 3 : Nat) : Int), ((a + 1 + 1 + 1 : Nat) : Int), sz) := drawN l hl hlen (a + 1 + 1) 3 (by omega) (by omega) sz
    have dl3 := drawV_lt l (a + 1 + 1) 3 (by decide)
    obtain ⟨b, a', hE, h1, h2, h3⟩ := drawBytes l hl hlen sz (drawV l (a + 1 + 1) 3) (by omega) (a + 1 + 1 + 1) (by omega)
    generalize drawV l a t.size = x at dn dl
    generalize drawV l (a + 1) 4 = y at dn2 dl2
    generalize drawV l (a + 1 + 1) 3 = z at dn3 dl3 h1 h3 hE
    have hw : wrap64 ((x : Int) + (y : Int)) = ((x + y : Nat) : Int) := by rw [wrap64_id (by omega) (by omega)]; rfl
    have s0 : (t.extract 0 x).size ≤ t.size := by rw [ByteArray.size_extract]; omega
    by_cases hbig : x + y > t.size
    · refine ⟨((t.extract 0 x) ++ b) ++ (t.extract t.size t.size), a', ?_, ?_, by omega, by omega⟩
      · refine Ev.congr (fun k => by rw [spec_l01Src_spoil.f, if_neg (by omega), dn, Option.bind_some]) ?_
        simp only
        refine Ev.congr (fun k => by rw [dn2, Option.bind_some]) ?_
        simp only
        rw [hw]
        refine Ev.pos (by omega) (Ev.pos (by omega) (Ev.pos (by omega) ?_))
        refine Ev.congr (fun k => by rw [dn3, Option.bind_some]) ?_
        simp only
        rw [Int.toNat_natCast, Int.toNat_natCast]
        refine Ev.bind hE ?_
        simp only
        refine Ev.pos (by omega) (Ev.pos (by omega) (Ev.pos (by omega) (Ev.pos ?_ (Ev.now _))))
        rw [ByteArray.size_append, ByteArray.size_extract, ByteArray.size_extract]; omega
      · rw [ByteArray.size_append, ByteArray.size_append, ByteArray.size_extract, ByteArray.size_extract]; omega
    · refine ⟨((t.extract 0 x) ++ b) ++ (t.extract (x + y) t.size), a', ?_, ?_, by omega, by omega⟩
      · refine Ev.congr (fun k => by rw [spec_l01Src_spoil.f, if_neg (by omega), dn, Option.bind_some]) ?_
        simp only
        refine Ev.congr (fun k => by rw [dn2, Option.bind_some]) ?_
        simp only
        rw [hw]
        refine Ev.neg (by omega) (Ev.pos (by omega) (Ev.pos (by omega) ?_))
        refine Ev.congr (fun k => by rw [dn3, Option.bind_some]) ?_
        simp only
        rw [Int.toNat_natCast, Int.toNat_natCast]
        refine Ev.bind hE ?_
        simp only
        refine Ev.pos (by omega) (Ev.pos (by omega) (Ev.pos (by omega) (Ev.pos ?_ (Ev.now _))))
        rw [ByteArray.size_append, ByteArray.size_extract, ByteArray.size_extract]; omega
      · rw [ByteArray.size_append, ByteArray.size_append, ByteArray.size_extract, ByteArray.size_extract]; omega

/-! Patterns with stars and question marks: the row of how far a text may have come. -/
def anyTo (row : Nat → Bool) : Nat → Bool
  | 0 => false
  | j + 1 => anyTo row j || row j
def gRow (t : List UInt8) (row : Nat → Bool) (c : UInt8) : Nat → Bool := fun j =>
  if c = 42 then anyTo row (j + 1) else match j with
    | 0 => false
    | j + 1 => row j && (c == 63 || t[j]? == some c)
def gStart : Nat → Bool := fun j => decide (j = 0)
def globL (p t : List UInt8) : Bool := p.foldl (gRow t) gStart t.length
/-- What GlobFits answers. -/
def globOf (p t : ByteArray) : Bool := if (p.size : Int) > 200 then false else if (t.size : Int) > 2000 then false else globL p.data.toList t.data.toList
/-- A row as a list. -/
def LL (n : Nat) (f : Nat → Bool) : List Bool := (List.range (n + 1)).map f
theorem LL_length (n : Nat) (f : Nat → Bool) : (LL n f).length = n + 1 := by simp [LL]
theorem LL_get (n : Nat) (f : Nat → Bool) (j : Nat) (h : j ≤ n) : rdOf false (LL n f) (j : Int) = f j := by
  unfold rdOf LL
  rw [Int.toNat_natCast, List.getD_eq_getElem?_getD, List.getElem?_map, List.getElem?_range (by omega)]
  rfl
theorem LL_ext {n : Nat} {f g : Nat → Bool} (h : ∀ i, i ≤ n → f i = g i) : LL n f = LL n g := by
  unfold LL
  apply List.map_congr_left
  intro i hi
  exact h i (by have := List.mem_range.1 hi; omega)
theorem LL_set (n : Nat) (f : Nat → Bool) (j : Nat) (b : Bool) (h : j ≤ n) : (LL n f).set j b = LL n (fun i => if i = j then b else f i) := by
  apply List.ext_getElem
  · simp [LL]
  · intro i h1 h2
    simp only [LL, List.getElem_set, List.getElem_map, List.getElem_range]
    by_cases e : j = i
    · subst e; simp
    · rw [if_neg e, if_neg (fun h => e h.symm)]
theorem LL_false (n : Nat) : List.replicate (n + 1) false = LL n (fun _ => false) := by
  apply List.ext_getElem
  · simp [LL]
  · intro i h1 h2; simp [LL]
theorem LL_start (n : Nat) : (List.replicate (n + 1) false).set 0 true = LL n gStart := by
  rw [LL_false, LL_set n _ 0 true (by omega)]
  apply LL_ext
  intro i _
  unfold gStart
  by_cases h : i = 0 <;> simp [h]
theorem LL_step (n : Nat) (f : Nat → Bool) (j : Nat) (h : j ≤ n) : (LL n (fun i => decide (i < j) && f i)).set j (f j) = LL n (fun i => decide (i < j + 1) && f i) := by
  rw [LL_set n _ j _ h]
  apply LL_ext
  intro i _
  by_cases e : i = j
  · subst e; simp
  · rw [if_neg e]
    have : decide (i < j) = decide (i < j + 1) := by rw [decide_eq_decide]; omega
    rw [this]
theorem LL_skip (n : Nat) (f : Nat → Bool) (j : Nat) (h : f j = false) : LL n (fun i => decide (i < j) && f i) = LL n (fun i => decide (i < j + 1) && f i) := by
  apply LL_ext
  intro i _
  by_cases e : i = j
  · subst e; simp [h]
  · have : decide (i < j) = decide (i < j + 1) := by rw [decide_eq_decide]; omega
    rw [this]
theorem LL_all (n : Nat) (f : Nat → Bool) (m : Nat) (h : n < m) : LL n (fun i => decide (i < m) && f i) = LL n f := by
  apply LL_ext
  intro i hi
  simp [show i < m by omega]
theorem LL_none (n : Nat) (f : Nat → Bool) : LL n (fun i => decide (i < 0) && f i) = List.replicate (n + 1) false := by
  rw [LL_false]; apply LL_ext; intro i _; simp
theorem gRow_star (t : List UInt8) (row : Nat → Bool) (j : Nat) : gRow t row 42 j = anyTo row (j + 1) := by simp [gRow]
theorem gRow_zero (t : List UInt8) (row : Nat → Bool) (c : UInt8) (h : c ≠ 42) : gRow t row c 0 = false := by simp [gRow, h]
theorem gRow_succ (t : List UInt8) (row : Nat → Bool) (c : UInt8) (h : c ≠ 42) (j : Nat) : gRow t row c (j + 1) = (row j && (c == 63 || t[j]? == some c)) := by simp [gRow, h]
theorem gRow_zero' (t : List UInt8) (row : Nat → Bool) (c : UInt8) (h : c ≠ 42) (n : Nat) : LL n (fun i => decide (i < 1) && gRow t row c i) = List.replicate (n + 1) false := by
  rw [LL_false]; apply LL_ext; intro i _
  by_cases e : i = 0
  · subst e; simp [gRow_zero t row c h]
  · simp [e]

section
variable (p t : ByteArray) (row : Nat → Bool) (c : UInt8) (i : Nat)
theorem spec_glob_star (ht : t.size ≤ 140737488351232) (hi : i < p.size) (hc : bt p (i : Int) = (c.toNat : Int)) (h42 : c = 42) (r : Bool)
    (cont : Ev (fun k => spec_GlobFits.l0 k p t (LL t.size (gRow t.data.toList row c)) ((i : Int) + 1)) r) (hi64 : p.size ≤ 140737488351232) :
    ∀ (d j : Nat), t.size + 1 - j = d → j ≤ t.size + 1 → Ev (fun k => spec_GlobFits.l1 k p t (LL t.size row) (i : Int) (LL t.size (fun q => decide (q < j) && gRow t.data.toList row c q)) (anyTo row j) (j : Int)) r := by
  subst h42
  have h42' : bt p (i : Int) = 42 := hc
  intro d
  induction d with
  | zero =>
    intro j hd hj
    refine Ev.step (fun k => by rw [spec_GlobFits.l1, if_neg (by omega), wrap64_id (x := (i : Int) + 1) (by omega) (by omega)]) ?_
    rw [LL_all _ _ _ (by omega)]
    exact cont
  | succ d ih =>
    intro j hd hj
    have hjn : j ≤ t.size := by omega
    have key : Ev (fun k => spec_GlobFits.j3 k p t (LL t.size row) (i : Int) (LL t.size (fun q => decide (q < j) && gRow t.data.toList row 42 q)) (anyTo row (j + 1)) (j : Int)) r := by
      have := ih (j + 1) (by omega) (by omega)
      refine Ev.step (fun k => by rw [spec_GlobFits.j3, if_pos (by omega), if_pos (by omega), if_pos h42', if_pos (by omega), if_pos (by rw [LL_length]; omega), wrap64_id (x := (j : Int) + 1) (by omega) (by omega), Int.toNat_natCast, ← gRow_star t.data.toList row j, LL_step _ _ _ hjn]) ?_
      rw [gRow_star]
      exact this
    by_cases ha : anyTo row j = true
    · have e : anyTo row (j + 1) = true := by simp [anyTo, ha]
      rw [e] at key
      exact Ev.step (fun k => by rw [spec_GlobFits.l1, if_pos (by omega), if_pos ha]) key
    · have e : anyTo row (j + 1) = row j := by simp [anyTo, ha]
      rw [e] at key
      exact Ev.step (fun k => by rw [spec_GlobFits.l1, if_pos (by omega), if_neg ha, if_pos (by omega), if_pos (by rw [LL_length]; omega), LL_get _ _ _ hjn]) key
theorem spec_glob_plain (ht : t.size ≤ 140737488351232) (hi : i < p.size) (hc : bt p (i : Int) = (c.toNat : Int)) (h42 : c ≠ 42) (r : Bool)
    (cont : Ev (fun k => spec_GlobFits.l0 k p t (LL t.size (gRow t.data.toList row c)) ((i : Int) + 1)) r) (hi64 : p.size ≤ 140737488351232) :
    ∀ (d j : Nat), t.size + 1 - j = d → j ≤ t.size + 1 → Ev (fun k => spec_GlobFits.l1 k p t (LL t.size row) (i : Int) (LL t.size (fun q => decide (q < j + 1) && gRow t.data.toList row c q)) (anyTo row j) (j : Int)) r := by
  have h42' : ¬ bt p (i : Int) = 42 := by rw [hc]; exact fun h => h42 ((byte_eq_lit c 42 (by omega)).1 h)
  intro d
  induction d with
  | zero =>
    intro j hd hj
    refine Ev.step (fun k => by rw [spec_GlobFits.l1, if_neg (by omega), wrap64_id (x := (i : Int) + 1) (by omega) (by omega)]) ?_
    rw [LL_all _ _ _ (by omega)]
    exact cont
  | succ d ih =>
    intro j hd hj
    have hjn : j ≤ t.size := by omega
    have next := ih (j + 1) (by omega) (by omega)
    have hw : wrap64 ((j : Int) + 1) = ((j + 1 : Nat) : Int) := by rw [wrap64_id (by omega) (by omega)]; rfl
    have key : Ev (fun k => spec_GlobFits.j3 k p t (LL t.size row) (i : Int) (LL t.size (fun q => decide (q < j + 1) && gRow t.data.toList row c q)) (anyTo row (j + 1)) (j : Int)) r := by
      by_cases hjl : j < t.size
      · obtain ⟨e, he, hbe⟩ := bt_get t j hjl
        have hg := gRow_succ t.data.toList row c h42 j
        rw [he] at hg
        by_cases hr : row j = true
        · have set1 : gRow t.data.toList row c (j + 1) = true → (LL t.size (fun q => decide (q < j + 1) && gRow t.data.toList row c q)).set (j + 1) true = LL t.size (fun q => decide (q < j + 1 + 1) && gRow t.data.toList row c q) := by
            intro h; rw [← LL_step _ _ _ (by omega : j + 1 ≤ t.size), h]
          by_cases h63 : c = 63
          · have h63' : bt p (i : Int) = 63 := by rw [hc, h63]; rfl
            refine Ev.step (fun k => by rw [spec_GlobFits.j3, if_pos (by omega), if_pos (by omega), if_neg h42', if_pos (by omega), if_pos (by omega), if_pos (by rw [LL_length]; omega), LL_get _ _ _ hjn, if_pos hr, if_pos h63', hw, if_pos (by omega), if_pos (by rw [LL_length]; omega), Int.toNat_natCast, set1 (by rw [hg, hr, h63]; rfl)]) ?_
            exact next
          · have h63' : ¬ bt p (i : Int) = 63 := by rw [hc]; exact fun h => h63 ((byte_eq_lit c 63 (by omega)).1 h)
            by_cases hce : c = e
            · refine Ev.step (fun k => by rw [spec_GlobFits.j3, if_pos (by omega), if_pos (by omega), if_neg h42', if_pos (by omega), if_pos (by omega), if_pos (by rw [LL_length]; omega), LL_get _ _ _ hjn, if_pos hr, if_neg h63', if_pos (by rw [hc, hbe, hce]), hw, if_pos (by omega), if_pos (by rw [LL_length]; omega), Int.toNat_natCast, set1 (by rw [hg, hr, hce]; simp)]) ?_
              exact next
            · have hz : gRow t.data.toList row c (j + 1) = false := by rw [hg, hr]; simp [h63]; exact fun h => hce h.symm
              rw [LL_skip _ _ _ hz]
              refine Ev.step (fun k => by rw [spec_GlobFits.j3, if_pos (by omega), if_pos (by omega), if_neg h42', if_pos (by omega), if_pos (by omega), if_pos (by rw [LL_length]; omega), LL_get _ _ _ hjn, if_pos hr, if_neg h63', if_neg (by rw [hc, hbe]; exact fun h => hce ((byte_eq_int c e).1 h)), hw]) ?_
              exact next
        · have hz : gRow t.data.toList row c (j + 1) = false := by rw [hg]; simp [hr]
          rw [LL_skip _ _ _ hz]
          refine Ev.step (fun k => by rw [spec_GlobFits.j3, if_pos (by omega), if_pos (by omega), if_neg h42', if_pos (by omega), if_pos (by omega), if_pos (by rw [LL_length]; omega), LL_get _ _ _ hjn, if_neg hr, hw]) ?_
          exact next
      · have : j = t.size := by omega
        subst this
        refine Ev.step (fun k => by rw [spec_GlobFits.j3, if_pos (by omega), if_pos (by omega), if_neg h42', if_neg (by omega), hw]) ?_
        rw [LL_all _ _ _ (by omega)] at next ⊢
        exact next
    by_cases ha : anyTo row j = true
    · have e : anyTo row (j + 1) = true := by simp [anyTo, ha]
      rw [e] at key
      exact Ev.step (fun k => by rw [spec_GlobFits.l1, if_pos (by omega), if_pos ha]) key
    · have e : anyTo row (j + 1) = row j := by simp [anyTo, ha]
      rw [e] at key
      exact Ev.step (fun k => by rw [spec_GlobFits.l1, if_pos (by omega), if_neg ha, if_pos (by omega), if_pos (by rw [LL_length]; omega), LL_get _ _ _ hjn]) key
end
theorem spec_glob_l0 (p t : ByteArray) (hp : p.size ≤ 140737488351232) (ht : t.size ≤ 140737488351232) : ∀ (d i : Nat) (row : Nat → Bool), p.size - i = d → i ≤ p.size →
    Ev (fun k => spec_GlobFits.l0 k p t (LL t.size row) (i : Int)) ((p.data.toList.drop i).foldl (gRow t.data.toList) row t.size) := by
  intro d
  induction d with
  | zero =>
    intro i row hd hi
    rw [drop_end p i (by omega)]
    refine Ev.step (fun k => by rw [spec_GlobFits.l0, if_neg (by omega), if_pos (by omega), if_pos (by rw [LL_length]; omega), LL_get _ _ _ (by omega)]) (Ev.give ?_)
    rfl
  | succ d ih =>
    intro i row hd hi
    obtain ⟨c, e, hb⟩ := bt_drop p i (by omega)
    rw [e]
    have hsz : wrap64 ((t.size : Int) + 1) = ((t.size + 1 : Nat) : Int) := by rw [wrap64_id (by omega) (by omega)]; rfl
    have cont := ih (i + 1) (gRow t.data.toList row c) (by omega) (by omega)
    refine Ev.step (fun k => by rw [spec_GlobFits.l0, if_pos (by omega), hsz, if_pos (by omega), if_pos (by omega), Int.toNat_natCast]) ?_
    by_cases h42 : c = 42
    · have := spec_glob_star p t row c i ht (by omega) hb h42 _ cont hp _ 0 rfl (by omega)
      rw [LL_none] at this
      exact this
    · have := spec_glob_plain p t row c i ht (by omega) hb h42 _ cont hp _ 0 rfl (by omega)
      rw [gRow_zero' _ _ _ h42] at this
      exact this
theorem spec_globFits (p t : ByteArray) (hp : p.size ≤ 140737488351232) (ht : t.size ≤ 140737488351232) : Ev (fun k => spec_GlobFits.f k p t) (globOf p t) := by
  unfold globOf
  by_cases h0 : (p.size : Int) > 200
  · rw [if_pos h0]
    refine Ev.congr (fun k => by rw [spec_GlobFits.f, if_pos h0]) ?_
    exact Ev.step (fun k => by rw [spec_GlobFits.j0, if_pos rfl]) (Ev.now _)
  · rw [if_neg h0]
    refine Ev.congr (fun k => by rw [spec_GlobFits.f, if_neg h0]) ?_
    by_cases h1 : (t.size : Int) > 2000
    · rw [if_pos h1]
      exact Ev.step (fun k => by rw [spec_GlobFits.j0, if_pos (by simpa using h1)]) (Ev.now _)
    · rw [if_neg h1]
      have hsz : wrap64 ((t.size : Int) + 1) = ((t.size + 1 : Nat) : Int) := by rw [wrap64_id (by omega) (by omega)]; rfl
      refine Ev.step (fun k => by rw [spec_GlobFits.j0, if_neg (by simpa using h1), hsz, if_pos (by omega), if_pos (by omega), Int.toNat_natCast, Option.bind_some, if_pos (by simp)]) ?_
      have := spec_glob_l0 p t hp ht p.size 0 gStart (by omega) (by omega)
      rw [← LL_start] at this
      unfold globL
      rw [show t.data.toList.length = t.size by simp]
      exact this

section
variable (p t : ByteArray) (row : Nat → Bool) (c : UInt8) (i : Nat)
theorem impl_glob_star (ht : t.size ≤ 140737488351232) (hi : i < p.size) (hc : bt p (i : Int) = (c.toNat : Int)) (h42 : c = 42) (r : Bool)
    (cont : Ev (fun k => impl_GlobFits.l0 k p t (LL t.size (gRow t.data.toList row c)) (p.size : Int) ((i : Int) + 1)) r) (hi64 : p.size ≤ 140737488351232) :
    ∀ (d j : Nat), t.size + 1 - j = d → j ≤ t.size + 1 → Ev (fun k => impl_GlobFits.l1 k p t (LL t.size row) (i : Int) (LL t.size (fun q => decide (q < j) && gRow t.data.toList row c q)) (anyTo row j) (p.size : Int) (i : Int) ((LL t.size row).length : Int) (j : Int)) r := by
  subst h42
  have h42' : bt p (i : Int) = 42 := hc
  intro d
  induction d with
  | zero =>
    intro j hd hj
    refine Ev.step (fun k => by rw [impl_GlobFits.l1, if_neg (by rw [LL_length]; omega), wrap64_id (x := (i : Int) + 1) (by omega) (by omega)]) ?_
    rw [LL_all _ _ _ (by omega)]
    exact cont
  | succ d ih =>
    intro j hd hj
    have hjn : j ≤ t.size := by omega
    have next := ih (j + 1) (by omega) (by omega)
    have hw : wrap64 ((j : Int) + 1) = ((j + 1 : Nat) : Int) := by rw [wrap64_id (by omega) (by omega)]; rfl
    have hst := LL_step t.size (gRow t.data.toList row 42) j hjn
    rw [gRow_star] at hst
    by_cases ha : anyTo row j = true
    · have e : anyTo row (j + 1) = true := by simp [anyTo, ha]
      rw [e] at next hst
      exact Ev.step (fun k => by rw [impl_GlobFits.l1, if_pos (by rw [LL_length]; omega), if_pos (by omega), if_pos (by omega), if_pos h42', if_pos ha, if_pos (by omega), if_pos (by rw [LL_length]; omega), hw, Int.toNat_natCast, hst]) next
    · have e : anyTo row (j + 1) = row j := by simp [anyTo, ha]
      rw [e] at next hst
      exact Ev.step (fun k => by rw [impl_GlobFits.l1, if_pos (by rw [LL_length]; omega), if_pos (by omega), if_pos (by omega), if_pos h42', if_neg ha, if_pos (by omega), if_pos (by rw [LL_length]; omega), if_pos (by rw [LL_length]; omega), hw, Int.toNat_natCast, LL_get _ _ _ hjn, hst]) next
theorem impl_glob_plain (ht : t.size ≤ 140737488351232) (hi : i < p.size) (hc : bt p (i : Int) = (c.toNat : Int)) (h42 : c ≠ 42) (r : Bool)
    (cont : Ev (fun k => impl_GlobFits.l0 k p t (LL t.size (gRow t.data.toList row c)) (p.size : Int) ((i : Int) + 1)) r) (hi64 : p.size ≤ 140737488351232) :
    ∀ (d j : Nat), t.size + 1 - j = d → j ≤ t.size + 1 → Ev (fun k => impl_GlobFits.l1 k p t (LL t.size row) (i : Int) (LL t.size (fun q => decide (q < j) && gRow t.data.toList row c q)) false (p.size : Int) (i : Int) ((LL t.size row).length : Int) (j : Int)) r := by
  have h42' : ¬ bt p (i : Int) = 42 := by rw [hc]; exact fun h => h42 ((byte_eq_lit c 42 (by omega)).1 h)
  intro d
  induction d with
  | zero =>
    intro j hd hj
    refine Ev.step (fun k => by rw [impl_GlobFits.l1, if_neg (by rw [LL_length]; omega), wrap64_id (x := (i : Int) + 1) (by omega) (by omega)]) ?_
    rw [LL_all _ _ _ (by omega)]
    exact cont
  | succ d ih =>
    intro j hd hj
    have hjn : j ≤ t.size := by omega
    have next := ih (j + 1) (by omega) (by omega)
    have hw : wrap64 ((j : Int) + 1) = ((j + 1 : Nat) : Int) := by rw [wrap64_id (by omega) (by omega)]; rfl
    have hst := LL_step t.size (gRow t.data.toList row c) j hjn
    cases j with
    | zero =>
      rw [LL_skip _ _ _ (gRow_zero _ _ _ h42)]
      exact Ev.step (fun k => by rw [impl_GlobFits.l1, if_pos (by rw [LL_length]; omega), if_pos (by omega), if_pos (by omega), if_neg h42', if_neg (by omega), hw]) next
    | succ q =>
      have hq : wrap64 (((q + 1 : Nat) : Int) - 1) = (q : Int) := by rw [wrap64_id (by omega) (by omega)]; omega
      obtain ⟨e, he, hbe⟩ := bt_get t q (by omega)
      have hg := gRow_succ t.data.toList row c h42 q
      rw [he] at hg
      by_cases hr : row q = true
      · by_cases h63 : c = 63
        · have h63' : bt p (i : Int) = 63 := by rw [hc, h63]; rfl
          rw [show gRow t.data.toList row c (q + 1) = true by rw [hg, hr, h63]; rfl] at hst
          exact Ev.step (fun k => by rw [impl_GlobFits.l1, if_pos (by rw [LL_length]; omega), if_pos (by omega), if_pos (by omega), if_neg h42', if_pos (by omega), hq, if_pos (by omega), if_pos (by rw [LL_length]; omega), LL_get _ _ _ (by omega), if_pos hr, if_pos h63', if_pos (by omega), if_pos (by rw [LL_length]; omega), Int.toNat_natCast, hst, hw]) next
        · have h63' : ¬ bt p (i : Int) = 63 := by rw [hc]; exact fun h => h63 ((byte_eq_lit c 63 (by omega)).1 h)
          have hce : (bt p (i : Int) == bt t (q : Int)) = gRow t.data.toList row c (q + 1) := by
            rw [hg, hr, hc, hbe]
            by_cases hce : c = e
            · subst hce; simp
            · have a0 : ¬ (c.toNat : Int) = (e.toNat : Int) := fun h => hce ((byte_eq_int c e).1 h)
              have a1 : ((c.toNat : Int) == (e.toNat : Int)) = false := beq_eq_false_iff_ne.2 a0
              have a2 : (c == 63) = false := beq_eq_false_iff_ne.2 h63
              have a3 : (some e == some c) = false := beq_eq_false_iff_ne.2 (fun h => hce (Option.some.inj h).symm)
              rw [a1, a2, a3]; rfl
          exact Ev.step (fun k => by rw [impl_GlobFits.l1, if_pos (by rw [LL_length]; omega), if_pos (by omega), if_pos (by omega), if_neg h42', if_pos (by omega), hq, if_pos (by omega), if_pos (by rw [LL_length]; omega), LL_get _ _ _ (by omega), if_pos hr, if_neg h63', if_pos (by omega), if_pos (by omega), if_pos (by rw [LL_length]; omega), hce, Int.toNat_natCast, hst, hw]) next
      · rw [show gRow t.data.toList row c (q + 1) = false by rw [hg]; simp [hr]] at hst
        exact Ev.step (fun k => by rw [impl_GlobFits.l1, if_pos (by rw [LL_length]; omega), if_pos (by omega), if_pos (by omega), if_neg h42', if_pos (by omega), hq, if_pos (by omega), if_pos (by rw [LL_length]; omega), LL_get _ _ _ (by omega), if_neg hr, if_pos (by omega), if_pos (by rw [LL_length]; omega), Int.toNat_natCast, hst, hw]) next
end
theorem impl_glob_l0 (p t : ByteArray) (hp : p.size ≤ 140737488351232) (ht : t.size ≤ 140737488351232) : ∀ (d i : Nat) (row : Nat → Bool), p.size - i = d → i ≤ p.size →
    Ev (fun k => impl_GlobFits.l0 k p t (LL t.size row) (p.size : Int) (i : Int)) ((p.data.toList.drop i).foldl (gRow t.data.toList) row t.size) := by
  intro d
  induction d with
  | zero =>
    intro i row hd hi
    rw [drop_end p i (by omega)]
    refine Ev.step (fun k => by rw [impl_GlobFits.l0, if_neg (by omega), if_pos (by omega), if_pos (by rw [LL_length]; omega), LL_get _ _ _ (by omega)]) (Ev.give ?_)
    rfl
  | succ d ih =>
    intro i row hd hi
    obtain ⟨c, e, hb⟩ := bt_drop p i (by omega)
    rw [e]
    have hsz : wrap64 ((t.size : Int) + 1) = ((t.size + 1 : Nat) : Int) := by rw [wrap64_id (by omega) (by omega)]; rfl
    have cont := ih (i + 1) (gRow t.data.toList row c) (by omega) (by omega)
    refine Ev.step (fun k => by rw [impl_GlobFits.l0, if_pos (by omega), hsz, if_pos (by omega), if_pos (by omega), Int.toNat_natCast]) ?_
    by_cases h42 : c = 42
    · have := impl_glob_star p t row c i ht (by omega) hb h42 _ cont hp _ 0 rfl (by omega)
      rw [LL_none] at this
      exact this
    · have := impl_glob_plain p t row c i ht (by omega) hb h42 _ cont hp _ 0 rfl (by omega)
      rw [LL_none] at this
      exact this
theorem impl_globFits (p t : ByteArray) (hp : p.size ≤ 140737488351232) (ht : t.size ≤ 140737488351232) : Ev (fun k => impl_GlobFits.f k p t) (globOf p t) := by
  unfold globOf
  by_cases h0 : (p.size : Int) > 200
  · rw [if_pos h0]
    refine Ev.congr (fun k => by rw [impl_GlobFits.f, if_pos h0]) ?_
    exact Ev.step (fun k => by rw [impl_GlobFits.j0, if_pos rfl]) (Ev.now _)
  · rw [if_neg h0]
    refine Ev.congr (fun k => by rw [impl_GlobFits.f, if_neg h0]) ?_
    by_cases h1 : (t.size : Int) > 2000
    · rw [if_pos h1]
      exact Ev.step (fun k => by rw [impl_GlobFits.j0, if_pos (by simpa using h1)]) (Ev.now _)
    · rw [if_neg h1]
      have hsz : wrap64 ((t.size : Int) + 1) = ((t.size + 1 : Nat) : Int) := by rw [wrap64_id (by omega) (by omega)]; rfl
      refine Ev.step (fun k => by rw [impl_GlobFits.j0, if_neg (by simpa using h1), hsz, if_pos (by omega), if_pos (by omega), Int.toNat_natCast, Option.bind_some, if_pos (by simp)]) ?_
      have := impl_glob_l0 p t hp ht p.size 0 gStart (by omega) (by omega)
      rw [← LL_start] at this
      unfold globL
      rw [show t.data.toList.length = t.size by simp]
      exact this

/-! What stars, points and a text's own bytes do to a row. -/
theorem anyTo_of (row : Nat → Bool) : ∀ (n i : Nat), i < n → row i = true → anyTo row n = true := by
  intro n
  induction n with
  | zero => intro i h _; omega
  | succ n ih =>
    intro i h hr
    rw [anyTo]
    by_cases e : i = n
    · subst e; rw [hr, Bool.or_true]
    · rw [ih i (by omega) hr, Bool.true_or]
theorem anyTo_mono {row row' : Nat → Bool} (h : ∀ j, row j = true → row' j = true) : ∀ n, anyTo row n = true → anyTo row' n = true := by
  intro n
  induction n with
  | zero => intro h'; exact h'
  | succ n ih =>
    intro h'
    rw [anyTo, Bool.or_eq_true] at h' ⊢
    rcases h' with h' | h'
    · exact .inl (ih h')
    · exact .inr (h n h')
theorem gRow_mono (t : List UInt8) {row row' : Nat → Bool} (h : ∀ j, row j = true → row' j = true) (c : UInt8) : ∀ j, gRow t row c j = true → gRow t row' c j = true := by
  intro j hj
  by_cases hc : c = 42
  · subst hc; rw [gRow_star] at hj ⊢; exact anyTo_mono h _ hj
  · cases j with
    | zero => rw [gRow_zero t row c hc] at hj; cases hj
    | succ j =>
      rw [gRow_succ t row c hc, Bool.and_eq_true] at hj
      rw [gRow_succ t row' c hc, Bool.and_eq_true]
      exact ⟨h j hj.1, hj.2⟩
theorem fold_mono (t : List UInt8) : ∀ (p : List UInt8) {row row' : Nat → Bool}, (∀ j, row j = true → row' j = true) → ∀ j, p.foldl (gRow t) row j = true → p.foldl (gRow t) row' j = true := by
  intro p
  induction p with
  | nil => intro row row' h j hj; exact h j hj
  | cons c p ih => intro row row' h j hj; exact ih (gRow_mono t h c) j hj
/-- A star more takes no fit away. -/
theorem star_more (p q t : List UInt8) (h : globL (p ++ q) t = true) : globL (p ++ [42] ++ q) t = true := by
  unfold globL at h ⊢
  rw [List.foldl_append] at h
  rw [List.append_assoc, List.foldl_append, List.foldl_append]
  refine fold_mono t q ?_ _ h
  intro j hj
  show gRow t _ 42 j = true
  rw [gRow_star]
  exact anyTo_of _ (j + 1) j (by omega) hj
theorem star_alone (t : List UInt8) : globL [42] t = true := by
  show gRow t gStart 42 t.length = true
  rw [gRow_star]
  exact anyTo_of _ _ 0 (by omega) rfl
/-- A row that holds at i alone. -/
def RowAt (row : Nat → Bool) (i : Nat) : Prop := row i = true ∧ ∀ j, row j = true → j = i
theorem rowAt_start : RowAt gStart 0 := ⟨rfl, fun j h => by simpa [gStart] using h⟩
theorem rowAt_step (t : List UInt8) {row : Nat → Bool} {i : Nat} (h : RowAt row i) (c : UInt8) (hc : c ≠ 42) (hm : c = 63 ∨ t[i]? = some c) : RowAt (gRow t row c) (i + 1) := by
  refine ⟨?_, ?_⟩
  · rw [gRow_succ t row c hc, h.1]
    rcases hm with hm | hm
    · simp [hm]
    · simp [hm]
  · intro j hj
    cases j with
    | zero => rw [gRow_zero t row c hc] at hj; cases hj
    | succ j =>
      rw [gRow_succ t row c hc, Bool.and_eq_true] at hj
      rw [h.2 j hj.1]

/-- A draw of five at a place that is not nought. -/
structure Moves (l : List Int) (b : Nat) : Prop where mk ::
  out : drawV l b 5 ≠ 0
/-- Where a draw of five at a place is nought, it isn't at some place an even way on. -/
theorem five_moves (l : List Int) (b : Nat) : ∃ m, m ≤ l.length + 1 ∧ Moves l (b + 2 * m) := by
  by_cases h0 : drawV l b 5 = 0
  · by_cases hk : l.length = 0
    · refine ⟨1, by omega, ⟨?_⟩⟩
      unfold drawV at h0 ⊢
      rw [if_neg (by omega), if_pos hk] at h0 ⊢
      omega
    · refine ⟨l.length, by omega, ⟨?_⟩⟩
      unfold drawV at h0 ⊢
      rw [if_neg (by omega), if_neg hk, if_neg (by omega)] at h0 ⊢
      have hkp : 0 < l.length := by omega
      rw [show b + 2 * l.length = b + l.length * 2 by omega, Nat.add_mul_mod_self_left, Nat.add_mul_div_left _ _ hkp]
      omega
  · exact ⟨0, by omega, ⟨h0⟩⟩
theorem drawGlob_end (l : List Int) (hl : Bytes8 l) (hlen : l.length ≤ 1048576) (sz : Int) (t p : ByteArray) (i a : Nat) (hi : t.size ≤ i) (ha : a < 800000000000) (hp : p.size ≤ 900000000000) :
    ∃ p' : ByteArray, Ev (fun k => spec_DrawGlobFits.l0 k t p (i : Int) l (a : Int) sz) (p', t) ∧ p'.size ≤ 1000000000000 := by
  obtain ⟨b, dn⟩ := oneE l hl hlen a 4 (by omega) (by omega) sz
  cases b with
  | true =>
    obtain ⟨s, a', hE, h1, _, _⟩ := drawSpoil l hl hlen sz p (by omega) (a + 1) (by omega)
    refine ⟨s, ?_, by omega⟩
    refine Ev.step (fun k => by rw [spec_DrawGlobFits.l0, if_neg (by omega)]) ?_
    refine Ev.bindS dn ?_
    exact Ev.pos rfl (Ev.bind hE (Ev.now _))
  | false =>
    refine ⟨p, ?_, by omega⟩
    refine Ev.step (fun k => by rw [spec_DrawGlobFits.l0, if_neg (by omega)]) ?_
    refine Ev.bindS dn ?_
    exact Ev.neg (by simp) (Ev.now _)
/-- One round: it goes on at a later place of the text, or at the same with a star more (a draw of five that was nought). -/
theorem drawGlob_round (l : List Int) (hl : Bytes8 l) (hlen : l.length ≤ 1048576) (sz : Int) (t p : ByteArray) (ht : t.size ≤ 1000) (i a : Nat) (hi : i < t.size) (ha : a < 800000000000) (hp : p.size ≤ 800000000000) :
    ∃ (i' a' : Nat) (p' : ByteArray), a < a' ∧ a' ≤ a + 2 ∧ p'.size ≤ p.size + 1 ∧ i' ≤ i + 3 ∧ (i < i' ∨ (i' = i ∧ a' = a + 2 ∧ ¬ Moves l a)) ∧
      ∀ r, Ev (fun k => spec_DrawGlobFits.l0 k t p' (i' : Int) l (a' : Int) sz) r → Ev (fun k => spec_DrawGlobFits.l0 k t p (i : Int) l (a : Int) sz) r := by
  obtain ⟨v, hv, hD, dn⟩ := drawE l hl hlen a 5 (by omega) (by omega) (by omega) sz
  have hw : wrap64 ((i : Int) + 1) = ((i + 1 : Nat) : Int) := by rw [wrap64_id (by omega) (by omega)]; rfl
  by_cases h0 : v = 0
  · obtain ⟨r, hr, _, dn2⟩ := drawE l hl hlen (a + 1) 4 (by omega) (by omega) (by omega) sz
    have hw3 : wrap64 ((wrap64 ((wrap64 ((i : Int) + (r : Int))) - 1)) + 1) = ((i + r : Nat) : Int) := by
      rw [wrap64_id (x := (i : Int) + (r : Int)) (by omega) (by omega), wrap64_id (x := (i : Int) + (r : Int) - 1) (by omega) (by omega), wrap64_id (by omega) (by omega)]; omega
    refine ⟨i + r, a + 1 + 1, p ++ (⟨#[42]⟩ : ByteArray), by omega, by omega, by rw [ByteArray.size_append]; exact Nat.le_refl _, by omega, ?_, ?_⟩
    · by_cases hr0 : r = 0
      · exact .inr ⟨by omega, by omega, fun h => h.out (hD.out.trans h0)⟩
      · exact .inl (by omega)
    · intro q hE
      refine Ev.step (fun k => by rw [spec_DrawGlobFits.l0, if_pos (by omega)]) ?_
      refine Ev.bindS dn ?_
      refine Ev.pos (by omega) (Ev.pos (by omega) ?_)
      refine Ev.bindS dn2 ?_
      simp only
      rw [hw3]
      exact hE
  · by_cases h1 : v = 1
    · refine ⟨i + 1, a + 1, p ++ (⟨#[63]⟩ : ByteArray), by omega, by omega, by rw [ByteArray.size_append]; exact Nat.le_refl _, by omega, .inl (by omega), ?_⟩
      intro q hE
      refine Ev.step (fun k => by rw [spec_DrawGlobFits.l0, if_pos (by omega)]) ?_
      refine Ev.bindS dn ?_
      refine Ev.neg (by omega) (Ev.pos (by omega) (Ev.pos (by omega) ?_))
      rw [hw]
      exact hE
    · have hes : (t.extract i (i + 1)).size = 1 := by rw [ByteArray.size_extract]; omega
      refine ⟨i + 1, a + 1, p ++ t.extract i (i + 1), by omega, by omega, by rw [ByteArray.size_append, hes]; exact Nat.le_refl _, by omega, .inl (by omega), ?_⟩
      intro q hE
      refine Ev.step (fun k => by rw [spec_DrawGlobFits.l0, if_pos (by omega)]) ?_
      refine Ev.bindS dn ?_
      refine Ev.neg (by omega) (Ev.neg (by omega) ?_)
      rw [hw, Int.toNat_natCast, Int.toNat_natCast]
      refine Ev.pos (by omega) (Ev.pos (by omega) (Ev.pos (by omega) (Ev.pos (by rw [hes]; omega) ?_)))
      exact hE
theorem drawGlob_l0 (l : List Int) (hl : Bytes8 l) (hlen : l.length ≤ 1048576) (sz : Int) (t : ByteArray) (ht : t.size ≤ 1000) (W : Nat) (hW : 2 * l.length + 10 ≤ W) : ∀ (D m i a : Nat) (p : ByteArray), t.size ≤ i + D → m ≤ l.length + 1 → Moves l (a + 2 * m) →
    a + 2 * m + D * W < 700000000000 → p.size + m + D * W < 700000000000 →
    ∃ p' : ByteArray, Ev (fun k => spec_DrawGlobFits.l0 k t p (i : Int) l (a : Int) sz) (p', t) ∧ p'.size ≤ 1000000000000 := by
  intro D
  induction D with
  | zero =>
    intro m i a p hD hm hne ha hp
    exact drawGlob_end l hl hlen sz t p i a (by omega) (by omega) (by omega)
  | succ D ihD =>
    have hDW : (D + 1) * W = D * W + W := Nat.succ_mul D W
    intro m
    induction m with
    | zero =>
      intro i a p hD hm hne ha hp
      rw [hDW] at ha hp
      by_cases hlt : i < t.size
      · obtain ⟨i', a', p', ha', ha2, hp', hi', hcase, hgo⟩ := drawGlob_round l hl hlen sz t p ht i a hlt (by omega) (by omega)
        rcases hcase with hlt' | ⟨_, _, hno⟩
        · obtain ⟨m', hm', hne2⟩ := five_moves l a'
          obtain ⟨p2, hE, hs⟩ := ihD m' i' a' p' (by omega) hm' hne2 (by omega) (by omega)
          exact ⟨p2, hgo _ hE, hs⟩
        · exact absurd hne hno
      · exact drawGlob_end l hl hlen sz t p i a (by omega) (by omega) (by omega)
    | succ m ihm =>
      intro i a p hD hm hne ha hp
      have ha0 := ha
      have hp0 := hp
      rw [hDW] at ha hp
      by_cases hlt : i < t.size
      · obtain ⟨i', a', p', ha', ha2, hp', hi', hcase, hgo⟩ := drawGlob_round l hl hlen sz t p ht i a hlt (by omega) (by omega)
        rcases hcase with hlt' | ⟨e1, e2, _⟩
        · obtain ⟨m', hm', hne2⟩ := five_moves l a'
          obtain ⟨p2, hE, hs⟩ := ihD m' i' a' p' (by omega) hm' hne2 (by omega) (by omega)
          exact ⟨p2, hgo _ hE, hs⟩
        · obtain ⟨p2, hE, hs⟩ := ihm i' a' p' (by omega) (by omega) (by rw [show a' + 2 * m = a + 2 * (m + 1) by omega]; exact hne) (by omega) (by omega)
          exact ⟨p2, hgo _ hE, hs⟩
      · exact drawGlob_end l hl hlen sz t p i a (by omega) (by omega) (by omega)
theorem drawGlob (l : List Int) (hl : Bytes8 l) (hlen : l.length ≤ 1048576) : ∃ p t : ByteArray, Ev (fun k => spec_DrawGlobFits.f k l) (p, t) ∧ p.size ≤ 1000000000000 ∧ t.size ≤ 1000 := by
  obtain ⟨s, hs, hsrc⟩ := source_ok l hlen
  obtain ⟨n, hn, _, dn⟩ := drawE l hl hlen 0 10 (by omega) (by omega) (by omega) (s : Int)
  obtain ⟨t, a', hE, h1, h2, h3⟩ := drawBytes l hl hlen (s : Int) n (by omega) (0 + 1) (by omega)
  obtain ⟨m, hm, hne⟩ := five_moves l a'
  obtain ⟨p, hP, hps⟩ := drawGlob_l0 l hl hlen (s : Int) t (by omega) (2 * l.length + 10) (by omega) 10 m 0 a' (⟨#[]⟩ : ByteArray) (by omega) hm hne (by omega) (by rw [show (⟨#[]⟩ : ByteArray).size = 0 from rfl]; omega)
  refine ⟨p, t, ?_, hps, by omega⟩
  refine Ev.congr (fun k => by rw [spec_DrawGlobFits.f]) ?_
  refine Ev.bindS hsrc ?_
  refine Ev.bindS dn ?_
  exact Ev.bind hE hP

/-- A drawn byte. -/
def lwAtN (l : List Int) (i : Nat) : Nat := if i < l.length then (rd l (i : Int)).toNat else (i * 61 + 29) % 256
theorem u8_range {x : Int} (h : (Lit.int .u8 x).wf = true) : 0 ≤ x ∧ x < 256 := by
  simp only [Lit.wf, IntKind.min, IntKind.max, IntKind.signed, IntKind.bits, Bool.and_eq_true, decide_eq_true_eq] at h
  simp at h
  omega
theorem lwAtN_lt (l : List Int) (hl : ∀ x ∈ l, (Lit.int .u8 x).wf = true) (i : Nat) : lwAtN l i < 256 := by
  unfold lwAtN
  by_cases h : i < l.length
  · rw [if_pos h]
    have hr : rd l (i : Int) = l[i] := by unfold rd; rw [Int.toNat_natCast, List.getD_eq_getElem?_getD, List.getElem?_eq_getElem h]; rfl
    have := u8_range (hl _ (List.getElem_mem h))
    rw [hr]; omega
  · rw [if_neg h]; omega
theorem lwAt (l : List Int) (hl : ∀ x ∈ l, (Lit.int .u8 x).wf = true) (i : Nat) (hi : i < 100000) : laws_lwAt.f l (i : Int) = some ((lwAtN l i : Nat) : Int) := by
  unfold laws_lwAt.f lwAtN
  by_cases h : i < l.length
  · have hr : rd l (i : Int) = l[i] := by unfold rd; rw [Int.toNat_natCast, List.getD_eq_getElem?_getD, List.getElem?_eq_getElem h]; rfl
    have := u8_range (hl _ (List.getElem_mem h))
    rw [if_pos (by omega), if_pos (by omega), if_pos h, hr, wrap64_id (by omega) (by omega)]
    congr 1; omega
  · rw [if_neg (by omega), if_neg h, wrap64_id (x := (i : Int) * 61) (by omega) (by omega), wrap64_id (x := (i : Int) * 61 + 29) (by omega) (by omega)]
    try rw [wrap64_id (by omega) (by omega)]
    rw [Int.tmod_eq_emod_of_nonneg (by omega)]
    rfl

theorem globs_l0 (l1 : List Int) (h1 : Bytes8 l1) (t : ByteArray) (ht : t.size ≤ 190) : ∀ (d i : Nat) (o : List UInt8), t.size - i = d → i ≤ t.size → o.length = i → RowAt (o.foldl (gRow t.data.toList) gStart) i →
    Ev (fun k => laws_FnGlobs.l0 k l1 t (bI o) (i : Int)) true := by
  intro d
  induction d with
  | zero =>
    intro i o hd hi ho hr
    have hin : i = t.size := by omega
    have f1 : globOf (mkB o) t = true := by
      unfold globOf
      rw [if_neg (by rw [mkB_size]; omega), if_neg (by omega), mkB_list]
      unfold globL
      rw [data_len, ← hin]; exact hr.1
    have f2 : globOf (⟨#[42]⟩ : ByteArray) t = true := by
      unfold globOf
      rw [if_neg (by decide), if_neg (by omega)]
      exact star_alone _
    have f3 : globOf (mkB o ++ (⟨#[63]⟩ : ByteArray)) t = false := by
      unfold globOf
      have hs : (mkB o ++ (⟨#[63]⟩ : ByteArray)).size = o.length + 1 := by rw [ByteArray.size_append, mkB_size]; rfl
      rw [if_neg (by rw [hs]; omega), if_neg (by omega)]
      have hl : (mkB o ++ (⟨#[63]⟩ : ByteArray)).data.toList = o ++ [63] := by simp [mkB]
      rw [hl]
      unfold globL
      rw [List.foldl_append, data_len]
      have := rowAt_step t.data.toList hr 63 (by decide) (.inl rfl)
      cases hb : [(63 : UInt8)].foldl (gRow t.data.toList) (o.foldl (gRow t.data.toList) gStart) t.size with
      | false => rfl
      | true => have := this.2 _ hb; omega
    have e1 := impl_globFits (mkB o) t (by rw [mkB_size]; omega) (by omega)
    have e2 := impl_globFits (⟨#[42]⟩ : ByteArray) t (by decide) (by omega)
    have e3 := impl_globFits (mkB o ++ (⟨#[63]⟩ : ByteArray)) t (by rw [ByteArray.size_append, mkB_size, show (⟨#[63]⟩ : ByteArray).size = 1 from rfl]; omega) (by omega)
    rw [f1] at e1
    rw [f2] at e2
    rw [f3] at e3
    refine Ev.step (fun k => by rw [laws_FnGlobs.l0, if_neg (by omega), strOf_bI]) ?_
    exact Ev.bind e1 (Ev.pos rfl (Ev.bind e2 (Ev.pos rfl (Ev.pos (by rw [mkB_size]; omega) (Ev.bind e3 (Ev.now _))))))
  | succ d ih =>
    intro i o hd hi ho hr
    have hlt : i < t.size := by omega
    obtain ⟨c, hc, hb⟩ := bt_get t i hlt
    have hw : wrap64 ((i : Int) + 1) = ((i + 1 : Nat) : Int) := by rw [wrap64_id (by omega) (by omega)]; rfl
    have ha := lwAt l1 h1 (i + 1) (by omega)
    have go : ∀ q : UInt8, q ≠ 42 → (q = 63 ∨ t.data.toList[i]? = some q) → Ev (fun k => laws_FnGlobs.l0 k l1 t (bI (o ++ [q])) ((i + 1 : Nat) : Int)) true := by
      intro q hq hm
      refine ih (i + 1) (o ++ [q]) (by omega) (by omega) (by simp [ho]) ?_
      rw [List.foldl_append]
      exact rowAt_step _ hr q hq hm
    have q63 : bI o ++ [63] = bI (o ++ [63]) := bI_snoc o 63
    refine Ev.step (fun k => by rw [laws_FnGlobs.l0, if_pos (by omega), if_pos (by omega), hw]) ?_
    refine Ev.bindS ha ?_
    by_cases hz : Int.tmod ((lwAtN l1 (i + 1) : Nat) : Int) 3 = 0
    · refine Ev.pos hz (Ev.pos (by rw [bI_length]; omega) ?_)
      rw [q63]; exact go 63 (by decide) (.inl rfl)
    · refine Ev.neg hz ?_
      by_cases h42 : c = 42
      · refine Ev.pos (by rw [hb, h42]; rfl) (Ev.pos (by rw [bI_length]; omega) ?_)
        rw [q63]; exact go 63 (by decide) (.inl rfl)
      · refine Ev.neg (by rw [hb]; exact fun h => h42 ((byte_eq_lit c 42 (by omega)).1 h)) ?_
        by_cases h63 : c = 63
        · refine Ev.pos (by rw [hb, h63]; rfl) (Ev.pos (by rw [bI_length]; omega) ?_)
          rw [q63]; exact go 63 (by decide) (.inl rfl)
        · refine Ev.neg (by rw [hb]; exact fun h => h63 ((byte_eq_lit c 63 (by omega)).1 h)) (Ev.pos (by rw [bI_length]; omega) ?_)
          rw [hb, bI_snoc]; exact go c h42 (.inr hc)
theorem globs_j2 (l1 : List Int) (h1 : Bytes8 l1) (t : ByteArray) (ht : t.size ≤ 190) : Ev (fun k => laws_FnGlobs.j2 k l1 t false) true :=
  Ev.step (fun k => by rw [laws_FnGlobs.j2, if_neg (by decide)]; rfl) (globs_l0 l1 h1 t ht t.size 0 [] (by omega) (by omega) rfl rowAt_start)
theorem globs_j1 (l1 : List Int) (h1 : Bytes8 l1) (p t : ByteArray) (hp : p.size ≤ 190) (ht : t.size ≤ 190) : Ev (fun k => laws_FnGlobs.j1 k l1 p t (globOf p t) false) true := by
  have ha := lwAt l1 h1 0 (by decide)
  have hw : wrap64 ((p.size : Int) + 1) = ((p.size + 1 : Nat) : Int) := by rw [wrap64_id (by omega) (by omega)]; rfl
  refine Ev.step (fun k => by rw [laws_FnGlobs.j1, if_neg (by decide), hw]) ?_
  refine Ev.bindS ha (Ev.neg (by omega) ?_)
  cases hf : globOf p t with
  | false => exact Ev.neg (by decide) (globs_j2 l1 h1 t ht)
  | true =>
    refine Ev.pos rfl ?_
    rw [tmod_nat]
    have hm := Nat.mod_lt (lwAtN l1 0) (show 0 < p.size + 1 by omega)
    generalize lwAtN l1 0 % (p.size + 1) = at_ at hm ⊢
    rw [Int.toNat_natCast]
    have s1 : (p.extract 0 at_).size = at_ := by rw [ByteArray.size_extract]; omega
    have s2 : (p.extract at_ p.size).size = p.size - at_ := by rw [ByteArray.size_extract]; omega
    have s3 : ((p.extract 0 at_) ++ (⟨#[42]⟩ : ByteArray)).size = at_ + 1 := by rw [ByteArray.size_append, s1]; rfl
    have s4 : (((p.extract 0 at_) ++ (⟨#[42]⟩ : ByteArray)) ++ (p.extract at_ p.size)).size = p.size + 1 := by rw [ByteArray.size_append, s3, s2]; omega
    have hg : globOf (((p.extract 0 at_) ++ (⟨#[42]⟩ : ByteArray)) ++ (p.extract at_ p.size)) t = true := by
      unfold globOf at hf ⊢
      rw [if_neg (by omega), if_neg (by omega)] at hf
      rw [if_neg (by rw [s4]; omega), if_neg (by omega)]
      have hl : (((p.extract 0 at_) ++ (⟨#[42]⟩ : ByteArray)) ++ (p.extract at_ p.size)).data.toList = p.data.toList.take at_ ++ [42] ++ p.data.toList.drop at_ := by
        simp only [ByteArray.data_append, Array.toList_append, ByteArray.data_extract, Array.toList_extract]
        simp [List.extract_eq_take_drop]
        rw [List.take_of_length_le (by simp)]
      rw [hl]
      apply star_more
      rw [List.take_append_drop]; exact hf
    have e1 := impl_globFits (((p.extract 0 at_) ++ (⟨#[42]⟩ : ByteArray)) ++ (p.extract at_ p.size)) t (by rw [s4]; omega) (by omega)
    rw [hg] at e1
    refine Ev.pos (by omega) (Ev.pos (by omega) (Ev.pos (by rw [s1]; omega) (Ev.pos (by rw [s3, s2]; omega) (Ev.bind e1 ?_))))
    exact globs_j2 l1 h1 t ht
theorem globs_j0 (l0 l1 : List Int) (h0 : Bytes8 l0) (hlen : l0.length ≤ 1048576) (h1 : Bytes8 l1) : Ev (fun k => laws_FnGlobs.j0 k l0 l1 false) true := by
  obtain ⟨p, t, hE, hp, ht⟩ := drawGlob l0 h0 hlen
  have e1 := impl_globFits p t (by omega) (by omega)
  have e2 := spec_globFits p t (by omega) (by omega)
  have out : Ev (fun k => laws_FnGlobs.j1 k l1 p t (globOf p t) true) true := Ev.step (fun k => by rw [laws_FnGlobs.j1, if_pos rfl]) (Ev.now _)
  refine Ev.step (fun k => by rw [laws_FnGlobs.j0, if_neg (by decide)]) ?_
  refine Ev.bind hE (Ev.bind e1 (Ev.bind e2 (Ev.neg (by simp) ?_)))
  by_cases hp2 : (p.size : Int) > 190
  · exact Ev.pos hp2 out
  · refine Ev.neg hp2 ?_
    by_cases ht2 : (t.size : Int) > 190
    · rw [show decide ((t.size : Int) > 190) = true from decide_eq_true ht2]; exact out
    · rw [show decide ((t.size : Int) > 190) = false from decide_eq_false ht2]; exact globs_j1 l1 h1 p t (by omega) (by omega)
theorem FnGlobs : laws_FnGlobs.Pure := by
  intro l0 l1 _ _ h0 _ _ h1
  refine Ev.rounds (Ev.congr (fun k => by rw [laws_FnGlobs.f]) ?_)
  have yes : Ev (fun k => laws_FnGlobs.j0 k l0 l1 true) true := Ev.step (fun k => by rw [laws_FnGlobs.j0, if_pos rfl]) (Ev.now _)
  by_cases h : (l0.length : Int) > 1048576
  · exact Ev.pos h yes
  · refine Ev.neg h ?_
    by_cases h' : (l1.length : Int) > 1048576
    · rw [show decide ((l1.length : Int) > 1048576) = true from decide_eq_true h']; exact yes
    · rw [show decide ((l1.length : Int) > 1048576) = false from decide_eq_false h']; exact globs_j0 l0 l1 h0 (by omega) h1

end Go.Proofs.Ytimfdodgecehgaa.Pure
