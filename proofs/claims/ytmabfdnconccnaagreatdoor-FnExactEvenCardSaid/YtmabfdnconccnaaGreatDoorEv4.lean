/- A verified evaluator of the machine's code, part 4: no program in sight. -/
import Derived.Test.YtmabfdnconccnaaGreatDoorEv3
import Derived.Lib.Bytealg
import Derived.Lib.Strings
import Derived.Lib.AtoiErrMem
import Derived.Lib.AtoiBound
import Derived.Lib.Atoi
namespace Go.Ev
open Go
def dd (k : Nat) : Bytes := if k = 0 then [] else Lib.decDigits k
end Go.Ev
namespace Go.Ev
open Go
structure Prims (P : Program) (gl : Glob) (l : List Entry) : Prop where
  ok : ∀ x ∈ l, ∀ p, x.prim = some p → ∀ ds r, p ds = some r → Contract P gl x ds r
theorem Prims.nil {P : Program} {gl : Glob} : Prims P gl [] := ⟨by simp⟩
theorem Prims.no {P : Program} {gl : Glob} {x : Entry} {l : List Entry} (h : x.prim.isNone = true) (hl : Prims P gl l) : Prims P gl (x :: l) := ⟨fun y hy p hp => by
  rcases List.mem_cons.1 hy with rfl | hy
  · rw [hp] at h; cases h
  · exact hl.ok y hy p hp⟩
theorem Prims.cons {P : Program} {gl : Glob} {x : Entry} {l : List Entry} (h : ∀ p, x.prim = some p → ∀ ds r, p ds = some r → Contract P gl x ds r) (hl : Prims P gl l) : Prims P gl (x :: l) := ⟨fun y hy => by
  rcases List.mem_cons.1 hy with rfl | hy
  · exact h
  · exact hl.ok y hy⟩
end Go.Ev
namespace Go.Ev
open Go
def primIndexByte (ds : List DV) : Option (InterpA [.int .i64]) := (typ [.str, .int .u8] ds).bind fun p => some (Lib.indexByte p.1 p.2)
def primCompare (ds : List DV) : Option (InterpA [.int .i64]) := (typ [.str, .str] ds).bind fun p => some (Lib.compareBytes p.1 p.2)
def containsF (s : Bytes) : Bytes → Option Bool
  | [c] => some (decide (0 ≤ Lib.indexByte s c))
  | _ => none
def primContains (ds : List DV) : Option (InterpA [.bool]) := (typ [.str, .str] ds).bind fun p => containsF p.1 p.2
theorem containsF_one {s t : Bytes} {r : Bool} (h : containsF s t = some r) : ∃ c, t = [c] ∧ r = decide (0 ≤ Lib.indexByte s c) := by
  match t, h with
  | [c], h => exact ⟨c, rfl, (Option.some.inj h).symm⟩
theorem arr2 {α : Type} {a : Array α} (h : a.size = 2) : ∃ x y, a = #[x, y] := by
  obtain ⟨l⟩ := a
  match l, h with
  | [x, y], _ => exact ⟨x, y, rfl⟩
theorem two_in {gl : Glob} {E : Entry} {w : World} {F R : Nat → Prop} {bl : Nat → Nat} {args : Array Value} {dB dA : List DV} {AB AA : Env} {k1 k2 : CK} (hins : E.ins = [.one k1, .one k2]) (hbx : E.bx = []) (hsz : args.size = E.ins.length)
    (hin : InOk gl E w F R bl (fun i => args.getD i undef) dB dA AB AA) : ∃ a b d1 d2 A1 A2, args = #[a, b] ∧ dB ++ dA = d1 ++ d2 ∧ (∃ nm, KRel (hp w) R (Bof bl) true AB nm k1 d1 a A1) ∧ ∃ nm, KRel (hp w) R (Bof bl) true (AB ++ A1) nm k2 d2 b A2 := by
  rw [hins] at hsz
  obtain ⟨a, b, rfl⟩ := arr2 hsz
  have hkb := hin.kb
  rw [hbx] at hkb
  simp only [KBx] at hkb
  obtain ⟨rfl, rfl⟩ := hkb
  have hkt := hin.kt
  rw [hins] at hkt
  simp only [gamOf, KTm, KRelV] at hkt
  obtain ⟨d1, d2', A1, A2', e1, e2, ⟨-, h1⟩, d2, d3, A2, A3, e3, e4, ⟨-, h2⟩, e5, e6⟩ := hkt
  subst e1 e2 e3 e4 e5 e6
  exact ⟨a, b, d1, d2, A1, A2, rfl, by simp, ⟨_, h1⟩, ⟨_, h2⟩⟩
theorem out_same {E : Entry} {w : World} {F R : Nat → Prop} {bl : Nat → Nat} {r : InterpA E.outC} {u : Value} (hbx : E.bx = []) (hk : KRelV (hp w) R noB true [] (nmT 9000) E.outs (untyp E.outC r) u []) : OutOk E w w F R bl r u := by
  refine ⟨Nat.le_refl _, fun _ _ _ => rfl, rfl, rfl, rfl, untyp E.outC r, [], [], [], by simp, hk, ?_, by rw [hbx]; simp [Env.fps], by simp [Env.fps]⟩
  rw [hbx]
  simp [zipB, KBx]
theorem indexByte_le : ∀ (l : List UInt8) (c : UInt8), Lib.indexByte l c ≤ l.length
  | [], c => by unfold Lib.indexByte; simp
  | b :: l, c => by
    have := indexByte_le l c
    unfold Lib.indexByte
    simp only [List.length_cons]
    split
    · omega
    · split <;> omega
theorem compare_bounds : ∀ (a b : List UInt8), -1 ≤ Lib.compareBytes a b ∧ Lib.compareBytes a b ≤ 1
  | [], [] => by unfold Lib.compareBytes; omega
  | [], _ :: _ => by unfold Lib.compareBytes; omega
  | _ :: _, [] => by unfold Lib.compareBytes; omega
  | a :: as, b :: bs => by
    have := compare_bounds as bs
    unfold Lib.compareBytes
    split
    · omega
    · split <;> omega
theorem index_contract {P : Program} {gl : Glob} {f : FuncId} {fn : Func}
    (hc : ∀ (s : ByteArray) (c : Int) (w : World), Calls P f #[.string s, .int .u8 c] w fun e w' => e = .returned (.int .i64 (Lib.indexByte s.data.toList c.toNat.toUInt8)) ∧ w' = w)
    (ds : List DV) (r : InterpA [.int .i64]) (h : primIndexByte ds = some r) :
    Contract P gl { f := f, fn := fn, ins := [.one .str, .one (.int .u8)], bx := [], outs := .one (.int .i64), bxo := [], loops := [], noJoin := [], outC := [.int .i64], prim := some primIndexByte } ds r := by
  intro w F R bl args dB dA AB AA hds hsz hin
  obtain ⟨a, b, d1, d2, A1, A2, rfl, e0, ⟨nm1, h1⟩, nm2, h2⟩ := two_in (k1 := .str) (k2 := .int .u8) rfl rfl hsz hin
  rw [e0] at hds
  subst hds
  simp only [KRel] at h1 h2
  obtain ⟨x, rfl, rfl, hx, -⟩ := h1
  obtain ⟨c, rfl, rfl, hb, -⟩ := h2
  have h' : some (Lib.indexByte (x : Bytes) (c : UInt8)) = some r := h
  have hr : r = Lib.indexByte (x : Bytes) (c : UInt8) := (Option.some.inj h').symm
  subst hr
  refine (hc ⟨(x : Bytes).toArray⟩ (intVal .u8 c) w).mono ?_
  rintro e w' ⟨rfl, rfl⟩
  refine out_same rfl ?_
  have e1 : (intVal .u8 c).toNat.toUInt8 = (c : UInt8) := by
    show ((((c : UInt8).toNat : Int)).toNat).toUInt8 = (c : UInt8)
    rw [Int.toNat_natCast]
    exact UInt8.ofNat_toNat
  have hbnd : -1 ≤ Lib.indexByte (x : Bytes) (c : UInt8) ∧ Lib.indexByte (x : Bytes) (c : UInt8) ≤ (x : Bytes).length := ⟨Lib.indexByte_ge _ _, indexByte_le _ _⟩
  unfold maxLen at hx
  simp only [KRelV, KRel]
  refine ⟨.inr rfl, _, rfl, ?_, ⟨?_, ?_⟩, trivial⟩
  · simp only [e1]; rfl
  · show -9223372036854775808 ≤ Lib.indexByte (x : Bytes) (c : UInt8); omega
  · show Lib.indexByte (x : Bytes) (c : UInt8) ≤ 9223372036854775807; omega
theorem compare_contract {P : Program} {gl : Glob} {f : FuncId} {fn : Func}
    (hc : ∀ (a b : ByteArray) (w : World), Calls P f #[.string a, .string b] w fun e w' => e = .returned (.int .i64 (Lib.compareBytes a.data.toList b.data.toList)) ∧ w' = w)
    (ds : List DV) (r : InterpA [.int .i64]) (h : primCompare ds = some r) :
    Contract P gl { f := f, fn := fn, ins := [.one .str, .one .str], bx := [], outs := .one (.int .i64), bxo := [], loops := [], noJoin := [], outC := [.int .i64], prim := some primCompare } ds r := by
  intro w F R bl args dB dA AB AA hds hsz hin
  obtain ⟨a, b, d1, d2, A1, A2, rfl, e0, ⟨nm1, h1⟩, nm2, h2⟩ := two_in (k1 := .str) (k2 := .str) rfl rfl hsz hin
  rw [e0] at hds
  subst hds
  simp only [KRel] at h1 h2
  obtain ⟨x, rfl, rfl, hx, -⟩ := h1
  obtain ⟨c, rfl, rfl, hb, -⟩ := h2
  have h' : some (Lib.compareBytes (x : Bytes) (c : Bytes)) = some r := h
  have hr : r = Lib.compareBytes (x : Bytes) (c : Bytes) := (Option.some.inj h').symm
  subst hr
  refine (hc ⟨(x : Bytes).toArray⟩ ⟨(c : Bytes).toArray⟩ w).mono ?_
  rintro e w' ⟨rfl, rfl⟩
  refine out_same rfl ?_
  have hbnd := compare_bounds (x : Bytes) (c : Bytes)
  simp only [KRelV, KRel]
  refine ⟨.inr rfl, _, rfl, rfl, ⟨?_, ?_⟩, trivial⟩
  · show -9223372036854775808 ≤ Lib.compareBytes (x : Bytes) (c : Bytes); omega
  · show Lib.compareBytes (x : Bytes) (c : Bytes) ≤ 9223372036854775807; omega
theorem contains_contract {P : Program} {gl : Glob} {f : FuncId} {fn : Func}
    (hc : ∀ (s : ByteArray) (c : UInt8) (w : World), Calls P f #[.string s, .string ⟨#[c]⟩] w fun e w' => e = .returned (.bool (decide (0 ≤ Lib.indexByte s.data.toList c))) ∧ w' = w)
    (ds : List DV) (r : InterpA [.bool]) (h : primContains ds = some r) :
    Contract P gl { f := f, fn := fn, ins := [.one .str, .one .str], bx := [], outs := .one .bool, bxo := [], loops := [], noJoin := [], outC := [.bool], prim := some primContains } ds r := by
  intro w F R bl args dB dA AB AA hds hsz hin
  obtain ⟨a, b, d1, d2, A1, A2, rfl, e0, ⟨nm1, h1⟩, nm2, h2⟩ := two_in (k1 := .str) (k2 := .str) rfl rfl hsz hin
  rw [e0] at hds
  subst hds
  simp only [KRel] at h1 h2
  obtain ⟨x, rfl, rfl, hx, -⟩ := h1
  obtain ⟨s, rfl, rfl, hb, -⟩ := h2
  have h' : containsF (x : Bytes) (s : Bytes) = some r := h
  obtain ⟨c, hs, hr⟩ := containsF_one h'
  subst hr
  have hs' : s = [c] := hs
  subst hs'
  refine (hc ⟨(x : Bytes).toArray⟩ c w).mono ?_
  rintro e w' ⟨rfl, rfl⟩
  refine out_same rfl ?_
  simp only [KRelV, KRel]
  exact ⟨.inr rfl, _, rfl, rfl, trivial⟩
def primAtoi (ds : List DV) : Option (InterpA [.int .i64, .bool]) := (typ [.str] ds).bind fun s => cond (Nat.ble (List.length (α := UInt8) s) 18) ((Lib.atoi s).map fun n => (n, false)) none
theorem atoi_contract {P : Program} {gl : Glob} {f : FuncId} {fn : Func} {B : TypeId}
    (hc : ∀ (s : ByteArray) (n : Int) (_ : s.size ≤ 18) (_ : Lib.atoi s.data.toList = some n) (w : World), Calls P f #[.string s] w fun e w' => e = .returned (.tuple #[.int .i64 n, .nilIface]) ∧ ∃ t, w' = Lib.bytesWorld w B t)
    (ds : List DV) (r : InterpA [.int .i64, .bool]) (h : primAtoi ds = some r) :
    Contract P gl { f := f, fn := fn, ins := [.one .str], bx := [], outs := .tup [.one (.int .i64), .one .er], bxo := [], loops := [], noJoin := [], outC := [.int .i64, .bool], prim := some primAtoi } ds r := by
  intro w F R bl args dB dA AB AA hds hsz hin
  obtain ⟨a, rfl⟩ := arr1 hsz
  have hkb := hin.kb
  simp only [KBx] at hkb
  obtain ⟨rfl, rfl⟩ := hkb
  have hkt := hin.kt
  simp only [gamOf, KTm, KRelV, KRel] at hkt
  obtain ⟨d1, d2, A1, A2, e1, e2, ⟨-, x0, ex, ev, hb, rfl⟩, rfl, rfl⟩ := hkt
  obtain ⟨x, hx⟩ : ∃ x : Bytes, x = x0 := ⟨_, rfl⟩
  subst hx
  subst e1 ex e2
  simp only [List.nil_append, List.append_nil] at hds
  subst hds
  have hv : a = .string ⟨x.toArray⟩ := ev
  subst hv
  have h' : cond (Nat.ble x.length 18) ((Lib.atoi x).map fun n => (n, false)) none = some r := h
  cases hl : Nat.ble x.length 18 with
  | false => rw [hl] at h'; cases h'
  | true =>
    rw [hl] at h'
    simp only [cond_true] at h'
    obtain ⟨n, hn⟩ : ∃ n, Lib.atoi x = some n := by
      cases ha : Lib.atoi x with
      | none => rw [ha] at h'; cases h'
      | some n => exact ⟨n, rfl⟩
    rw [hn] at h'
    have hr : r = ((n, false) : Int × Bool) := (Option.some.inj h').symm
    subst hr
    have hl := Nat.le_of_ble_eq_true hl
    have hbd := Lib.atoi_bound hn hl
    refine (hc ⟨x.toArray⟩ n (by show x.toArray.size ≤ 18; simpa using hl) hn w).mono ?_
    rintro e w' ⟨rfl, t, rfl⟩
    have hbl := Lib.bytesWorld_below w B t
    refine ⟨hbl.size, fun b hb _ => hbl.block b hb, hbl.os, hbl.tape, hbl.output, [⟨.int .i64, n⟩, ⟨.bool, false⟩], [], [], [], rfl, ?_, by simp [zipB, KBx], by simp [Env.fps], by simp [Env.fps]⟩
    simp only [KRelV, KRelTs, KRel]
    refine ⟨_, rfl, _, _, [⟨.int .i64, n⟩], [⟨.bool, false⟩], [], [], rfl, rfl, rfl, .inr rfl, ⟨n, rfl, rfl, ⟨?_, ?_⟩, rfl⟩, _, _, [⟨.bool, false⟩], [], [], [], rfl, rfl, rfl, .inr rfl, ⟨false, rfl, .inl ⟨rfl, rfl⟩, rfl⟩, rfl, rfl, rfl⟩
    · show -9223372036854775808 ≤ n; omega
    · show n ≤ 9223372036854775807; omega
end Go.Ev
namespace Go.Ev
open Go
noncomputable def bo (P : Prop) : Bool := @decide P (Classical.propDecidable P)
theorem bo_eq {P : Prop} : (bo P = true) = P := by
  unfold bo
  exact propext (@decide_eq_true_iff P (Classical.propDecidable P))
theorem bo_t {P : Prop} (h : P) : bo P = true := by rw [bo_eq]; exact h
theorem bo_f {P : Prop} (h : ¬ P) : bo P = false := by
  cases e : bo P
  · rfl
  · exact absurd (bo_eq.mp e) h
theorem bo_of (b : Bool) : b = bo (b = true) := by
  cases b
  · exact (bo_f (by simp)).symm
  · exact (bo_t rfl).symm
theorem bo_dec (P : Prop) [inst : Decidable P] : decide P = bo P := by
  by_cases h : P
  · rw [decide_eq_true h, bo_t h]
  · rw [decide_eq_false h, bo_f h]
theorem bo_not (P : Prop) : (!bo P) = bo (¬ P) := by
  by_cases h : P
  · rw [bo_t h, bo_f (by simp [h])]; rfl
  · rw [bo_f h, bo_t h]; rfl
theorem bo_beq {α : Type} [BEq α] [LawfulBEq α] (a b : α) : (a == b) = bo (a = b) := by
  by_cases h : a = b
  · rw [bo_t h, h]; simp
  · rw [bo_f h]; simp [h]
theorem bo_bne {α : Type} [BEq α] [LawfulBEq α] (a b : α) : (a != b) = bo (¬ a = b) := by
  unfold bne
  rw [bo_beq, bo_not]
theorem bo_ite {α : Type} (P : Prop) (x y : α) : cond (bo P) x y = @ite α P (Classical.propDecidable P) x y := by
  by_cases h : P
  · rw [bo_t h, if_pos h]; rfl
  · rw [bo_f h, if_neg h]; rfl
theorem bo_and (P Q : Prop) : cond (bo P) (some (bo Q)) (some false) = some (bo (P ∧ Q)) := by
  by_cases h : P
  · rw [bo_t h]; simp [h]
  · rw [bo_f h, bo_f (fun k : P ∧ Q => h k.1)]; rfl
theorem bo_or (P Q : Prop) : cond (bo P) (some true) (some (bo Q)) = some (bo (P ∨ Q)) := by
  by_cases h : P
  · rw [bo_t h, bo_t (Or.inl h)]; rfl
  · rw [bo_f h]; simp [h]
theorem bo_nand (P Q : Prop) : cond (bo P) (some false) (some (bo Q)) = some (bo (¬ P ∧ Q)) := by
  by_cases h : P
  · rw [bo_t h, bo_f (fun k : ¬ P ∧ Q => k.1 h)]; rfl
  · rw [bo_f h]; simp [h]
theorem bo_congr {P Q : Prop} (h : P ↔ Q) : (some (bo P) : Option Bool) = some (bo Q) := by rw [propext h]
theorem bo_orr {α : Type} (P Q : Prop) (x y : α) : cond (bo P) x (cond (bo Q) x y) = cond (bo (P ∨ Q)) x y := by
  by_cases h : P
  · rw [bo_t h, bo_t (Or.inl h)]; rfl
  · rw [bo_f h]; simp [h]
theorem bo_andr {α : Type} (P Q : Prop) (x y : α) : cond (bo P) (cond (bo Q) x y) y = cond (bo (P ∧ Q)) x y := by
  by_cases h : P
  · rw [bo_t h]; simp [h]
  · rw [bo_f h, bo_f (fun k : P ∧ Q => h k.1)]; rfl
theorem bo_sw {α : Type} {P Q : Prop} {x y : α} (h : ¬ P ↔ Q) : cond (bo P) x y = cond (bo Q) y x := by
  by_cases k : P
  · rw [bo_t k, bo_f (fun q => h.2 q k)]; rfl
  · rw [bo_f k, bo_t (h.1 k)]; rfl
theorem bo_T : bo True = true := bo_t trivial
theorem bo_F : bo False = false := bo_f id
theorem bo_cc (P A B : Prop) : cond (bo P) (some (bo A)) (some (bo B)) = some (bo ((P ∧ A) ∨ (¬ P ∧ B))) := by
  by_cases h : P
  · rw [bo_t h]; simp [h]
  · rw [bo_f h]; simp [h]
theorem sumE_l {α β γ : Type} (a : α) (f : α → Option γ) (g : β → Option γ) : sumE (Sum.inl a) f g = f a := rfl
theorem sumE_r {α β γ : Type} (a : β) (f : α → Option γ) (g : β → Option γ) : sumE (Sum.inr a) f g = g a := rfl
theorem bo_sum {α β γ : Type} (P : Prop) (a : α) (b : β) (f : α → Option γ) (g : β → Option γ) : sumE (cond (bo P) (Sum.inl a) (Sum.inr b)) f g = cond (bo P) (f a) (g b) := by
  cases bo P <;> rfl
theorem bo_tf (P : Prop) : cond (bo P) (some true) (some false) = some (bo P) := by cases bo P <;> rfl
theorem bo_ft (P : Prop) : cond (bo P) (some false) (some true) = some (bo (¬ P)) := by rw [← bo_not]; cases bo P <;> rfl
theorem bo_bind {α β : Type} (P : Prop) (x y : Option α) (f : α → Option β) : (cond (bo P) x y).bind f = cond (bo P) (x.bind f) (y.bind f) := by cases bo P <;> rfl
theorem rng_loop {β γ : Type} {len : Nat} (hl : len ≤ 1048576) {q : Nat → Prop} {r : γ} {b : β} {L : Nat → Nat → Int → Option (Sum β γ)}
    (hx : Evt fun n => ∀ m (i : Nat), i < len → L n (m + 1) (i : Int) = cond (bo (q i)) (L n m (IntKind.wrap .i64 ((i : Int) + (1 : Int)))) (some (.inr r)))
    (he : ∀ n m, L n (m + 1) (len : Int) = some (.inl b)) : Evt fun n => L n n 0 = some (cond (bo (∀ i, i < len → q i)) (.inl b) (.inr r)) := by
  have := loop_up (len := len) (L := fun n m i (_ : Unit) => L n m (i : Int)) (fun i _ => ∀ j, j < i → q j) (fun x => x = cond (bo (∀ i, i < len → q i)) (.inl b) (.inr r)) ?_ ?_
  · exact this.mono fun n h => by
      obtain ⟨x, h1, h2⟩ := h () (fun j hj => absurd hj (Nat.not_lt_zero _))
      rw [← h2]; exact h1
  · refine hx.mono fun n h m i _ hi hinv => ?_
    have h := h m i hi
    by_cases hq : q i
    · right
      rw [bo_t hq] at h
      refine ⟨(), by rw [← wrap_next hi (by omega)]; exact h, fun j hj => ?_⟩
      by_cases e : j = i
      · subst e; exact hq
      · exact hinv j (by omega)
    · left
      rw [bo_f hq] at h
      refine ⟨_, h, ?_⟩
      rw [bo_f (fun k => hq (k i hi))]
      rfl
  · exact Evt.of fun n m _ hinv => ⟨_, he n m, by rw [bo_t hinv]; rfl⟩
theorem idx_loop {β γ : Type} {len : Nat} (hl : len ≤ 1048576) {q : Nat → Prop} {r : Int → γ} {b : β} {L : Nat → Nat → Int → Option (Sum β γ)}
    (hx : Evt fun n => ∀ m (i : Nat), i < len → L n (m + 1) (i : Int) = cond (bo (q i)) (some (.inr (r i))) (L n m (IntKind.wrap .i64 ((i : Int) + (1 : Int)))))
    (he : ∀ n m, L n (m + 1) (len : Int) = some (.inl b)) : Evt fun n => (∃ i : Nat, i < len ∧ q i ∧ L n n 0 = some (.inr (r i))) ∨ ((∀ i, i < len → ¬ q i) ∧ L n n 0 = some (.inl b)) := by
  have := loop_up (len := len) (L := fun n m i (_ : Unit) => L n m (i : Int)) (fun i _ => ∀ j, j < i → ¬ q j) (fun x => (∃ i : Nat, i < len ∧ q i ∧ x = .inr (r i)) ∨ ((∀ i, i < len → ¬ q i) ∧ x = .inl b)) ?_ ?_
  · exact this.mono fun n h => by
      obtain ⟨x, h1, h2⟩ := h () (fun j hj => absurd hj (Nat.not_lt_zero _))
      have h1 : L n n 0 = some x := h1
      rw [h1]
      rcases h2 with ⟨i, a, c, rfl⟩ | ⟨a, rfl⟩
      · exact .inl ⟨i, a, c, rfl⟩
      · exact .inr ⟨a, rfl⟩
  · refine hx.mono fun n h m i _ hi hinv => ?_
    have h := h m i hi
    by_cases hq : q i
    · left
      rw [bo_t hq] at h
      exact ⟨_, h, .inl ⟨i, hi, hq, rfl⟩⟩
    · right
      rw [bo_f hq] at h
      refine ⟨(), by rw [← wrap_next hi (by omega)]; exact h, fun j hj => ?_⟩
      by_cases e : j = i
      · subst e; exact hq
      · exact hinv j (by omega)
  · exact Evt.of fun n m _ hinv => ⟨_, he n m, .inr ⟨hinv, rfl⟩⟩
theorem atZ_pred {α : Type} {l : List α} {i : Nat} (h0 : 0 < i) (h : i < l.length) (hl : l.length ≤ 1048576) : atZ l (IntKind.wrap .i64 ((i : Int) - (1 : Int))) = some (l[i - 1]'(by omega)) := by
  have e : IntKind.wrap .i64 ((i : Int) - (1 : Int)) = ((i - 1 : Nat) : Int) := by rw [IntKind.wrap_i64]; omega
  rw [e, atZ_at (by omega)]
theorem atZ_last {α : Type} {l : List α} (h0 : 0 < l.length) (hl : l.length ≤ 1048576) : atZ l (IntKind.wrap .i64 ((l.length : Int) - (1 : Int))) = some (l[l.length - 1]'(by omega)) := by
  have e : IntKind.wrap .i64 ((l.length : Int) - (1 : Int)) = ((l.length - 1 : Nat) : Int) := by rw [IntKind.wrap_i64]; omega
  rw [e, atZ_at (by omega)]
theorem all_get {α : Type} (l : List α) (p : α → Prop) : (∀ i, (h : i < l.length) → p l[i]) ↔ ∀ x ∈ l, p x := by
  constructor
  · intro h x hx
    obtain ⟨i, hi, rfl⟩ := List.mem_iff_getElem.1 hx
    exact h i hi
  · exact fun h i hi => h _ (List.getElem_mem hi)
def At {α : Type} (l : List α) (p : α → Prop) (i : Nat) : Prop := ∀ h : i < l.length, p l[i]
theorem At_all {α : Type} (l : List α) (p : α → Prop) : (∀ i, i < l.length → At l p i) ↔ ∀ x ∈ l, p x := by
  rw [← all_get]
  exact ⟨fun h i hi => h i hi hi, fun h i hi _ => h i hi⟩
theorem At_at {α : Type} {l : List α} {p : α → Prop} {i : Nat} (h : i < l.length) : At l p i ↔ p l[i] := ⟨fun k => k h, fun k _ => k⟩
theorem all_loop {α β γ : Type} {l : List α} (hl : l.length ≤ 1048576) {p : α → Prop} {r : γ} {b : β} {L : Nat → Nat → Int → Option (Sum β γ)}
    (hx : Evt fun n => ∀ m (i : Nat), (h : i < l.length) → L n (m + 1) (i : Int) = cond (bo (p l[i])) (L n m (IntKind.wrap .i64 ((i : Int) + (1 : Int)))) (some (.inr r)))
    (he : ∀ n m, L n (m + 1) (l.length : Int) = some (.inl b)) : Evt fun n => L n n 0 = some (cond (bo (∀ x ∈ l, p x)) (.inl b) (.inr r)) := by
  have := rng_loop (len := l.length) hl (q := At l p) (r := r) (b := b) (L := L) (hx.mono fun n h m i hi => by rw [h m i hi, propext (At_at (p := p) hi)]) he
  simpa only [At_all] using this
theorem any_loop {α β γ : Type} {l : List α} (hl : l.length ≤ 1048576) {p : α → Prop} {r : Int → γ} {b : β} {L : Nat → Nat → Int → Option (Sum β γ)}
    (hx : Evt fun n => ∀ m (i : Nat), (h : i < l.length) → L n (m + 1) (i : Int) = cond (bo (p l[i])) (some (.inr (r i))) (L n m (IntKind.wrap .i64 ((i : Int) + (1 : Int)))))
    (he : ∀ n m, L n (m + 1) (l.length : Int) = some (.inl b)) : Evt fun n => ((∃ x ∈ l, p x) ∧ ∃ i : Nat, L n n 0 = some (.inr (r i))) ∨ ((∀ x ∈ l, ¬ p x) ∧ L n n 0 = some (.inl b)) := by
  have := idx_loop (len := l.length) hl (q := At l p) (r := r) (b := b) (L := L) (hx.mono fun n h m i hi => by rw [h m i hi, propext (At_at (p := p) hi)]) he
  refine this.mono fun n h => ?_
  rcases h with ⟨i, hi, hq, e⟩ | ⟨hq, e⟩
  · exact .inl ⟨⟨_, List.getElem_mem hi, (At_at hi).1 hq⟩, i, e⟩
  · refine .inr ⟨fun x hx hp => ?_, e⟩
    obtain ⟨i, hi, rfl⟩ := List.mem_iff_getElem.1 hx
    exact hq i hi ((At_at hi).2 hp)
theorem idx_pos (i : Nat) : bo ((0 : Int) ≤ (i : Int)) = true := bo_t (by omega)
theorem idx_neg : bo ((0 : Int) ≤ (-1 : Int)) = false := bo_f (by omega)
theorem any_res {α β : Type} {l : List α} {p : α → Prop} {o : Option (Int × β)} {c : β}
    (h : ((∃ x ∈ l, p x) ∧ ∃ i : Nat, o = some ((i : Int), c)) ∨ ((∀ x ∈ l, ¬ p x) ∧ o = some ((-1 : Int), c))) : o.bind (fun y => some (decide ((0 : Int) ≤ y.1), y.2)) = some (bo (∃ x ∈ l, p x), c) := by
  rcases h with ⟨h, i, rfl⟩ | ⟨h, rfl⟩
  · simp only [Option.bind_some, bo_dec, idx_pos, bo_t h]
  · simp only [Option.bind_some, bo_dec, idx_neg]
    rw [bo_f (fun ⟨x, hx, hp⟩ => h x hx hp)]
theorem any_res1 {α : Type} {l : List α} {p : α → Prop} {o : Option Int}
    (h : ((∃ x ∈ l, p x) ∧ ∃ i : Nat, o = some (i : Int)) ∨ ((∀ x ∈ l, ¬ p x) ∧ o = some (-1 : Int))) : o.bind (fun y => some (decide ((0 : Int) ≤ y))) = some (bo (∃ x ∈ l, p x)) := by
  rcases h with ⟨h, i, rfl⟩ | ⟨h, rfl⟩
  · simp only [Option.bind_some, bo_dec, idx_pos, bo_t h]
  · simp only [Option.bind_some, bo_dec, idx_neg]
    rw [bo_f (fun ⟨x, hx, hp⟩ => h x hx hp)]
theorem Evt.lt {len : Nat} {p : (i : Nat) → i < len → Nat → Prop} (h : ∀ i (hi : i < len), Evt (p i hi)) : Evt fun n => ∀ i (hi : i < len), p i hi n :=
  (Evt.all (p := fun i n => ∀ hi : i < len, p i hi n) (List.range len) fun i hi => (h i (List.mem_range.1 hi)).mono fun _ k _ => k).mono fun _ k i hi => k i (List.mem_range.2 hi) hi
theorem bo_congr' {P Q : Prop} (h : P ↔ Q) : bo P = bo Q := by rw [propext h]
theorem bo_some_t {P : Prop} (h : P) : (some true : Option Bool) = some (bo P) := by rw [bo_t h]
theorem bo_some_f {P : Prop} (h : ¬ P) : (some false : Option Bool) = some (bo P) := by rw [bo_f h]
theorem nthZ_at {l : Bytes} {i : Nat} (h : i < l.length) : nthZ l (i : Int) = some l[i] := by
  unfold nthZ nth
  rw [decide_eq_true (by omega)]
  simp [h]
theorem Evt.nm {p q : Nat → Prop} (h : Evt p) (k : ∀ n, p n → q (n + 1)) : Evt q := Evt.succ (h.mono k)
theorem u8_id (b : UInt8) : UInt8.ofNat (Int.toNat (b.toNat : Int)) = b := by simp
theorem lt_dec {i len : Nat} (h : i < len) : decide ((i : Int) < (len : Int)) = true := decide_eq_true (by omega)
theorem lt_nd (len : Nat) : decide ((len : Int) < (len : Int)) = false := decide_eq_false (by omega)
theorem tw_step {α : Type} {p : α → Bool} : ∀ (l : List α) (i : Nat) (h : i < l.length), i ≤ (l.takeWhile p).length → p l[i] = true → i + 1 ≤ (l.takeWhile p).length
  | a :: l, 0, _, _, hp => by
    have hp : p a = true := hp
    simp [List.takeWhile_cons, hp]
  | a :: l, i + 1, h, hi, hp => by
    rw [List.takeWhile_cons] at hi ⊢
    by_cases e : p a = true
    · rw [if_pos e] at hi ⊢
      have := tw_step l i (by simpa using h) (by simpa using hi) hp
      simpa using this
    · rw [if_neg e] at hi
      simp at hi
theorem tw_stop {α : Type} {p : α → Bool} : ∀ (l : List α) (i : Nat) (h : i < l.length), p l[i] = false → (l.takeWhile p).length ≤ i
  | a :: l, 0, _, hp => by
    have hp : p a = false := hp
    simp [List.takeWhile_cons, hp]
  | a :: l, i + 1, h, hp => by
    rw [List.takeWhile_cons]
    by_cases e : p a = true
    · rw [if_pos e]
      have := tw_stop l i (by simpa using h) hp
      simpa using this
    · rw [if_neg e]
      simp
theorem tw_le {α : Type} (p : α → Bool) (l : List α) : (l.takeWhile p).length ≤ l.length := (List.takeWhile_sublist p).length_le
theorem cnt_loop {α β : Type} {l : List α} (hl : l.length ≤ 1048576) {p : α → Bool} {L : Nat → Nat → Int → Option (Sum Int β)}
    (hx : Evt fun n => ∀ m (i : Nat), (h : i < l.length) → L n (m + 1) (i : Int) = cond (p l[i]) (L n m (IntKind.wrap .i64 ((i : Int) + (1 : Int)))) (some (.inl i)))
    (he : ∀ n m, L n (m + 1) (l.length : Int) = some (.inl (l.length : Int))) : Evt fun n => L n n 0 = some (.inl ((l.takeWhile p).length : Int)) := by
  have := loop_up (len := l.length) (L := fun n m i (_ : Unit) => L n m (i : Int)) (fun i _ => i ≤ (l.takeWhile p).length) (fun x => x = .inl ((l.takeWhile p).length : Int)) ?_ ?_
  · exact this.mono fun n h => by
      obtain ⟨x, h1, h2⟩ := h () (Nat.zero_le _)
      rw [← h2]; exact h1
  · refine hx.mono fun n h m i _ hi hinv => ?_
    have h := h m i hi
    cases hq : p l[i]
    · left
      rw [hq] at h
      refine ⟨_, h, ?_⟩
      have := tw_stop l i hi hq
      rw [show i = (l.takeWhile p).length by omega]
    · right
      rw [hq] at h
      exact ⟨(), by rw [← wrap_next hi (by omega)]; exact h, tw_step l i hi hinv hq⟩
  · refine Evt.of fun n m _ hinv => ⟨_, he n m, ?_⟩
    have := tw_le p l
    rw [show l.length = (l.takeWhile p).length by omega]
theorem tw_all {α : Type} (p : α → Bool) (l : List α) : (l.takeWhile p).length = l.length ↔ ∀ x ∈ l, p x = true := by
  induction l with
  | nil => simp
  | cons a l ih =>
    rw [List.takeWhile_cons]
    by_cases e : p a = true
    · simp [e, ih]
    · simp [e]
def In (x lo hi : Int) : Prop := lo ≤ x ∧ x ≤ hi
end Go.Ev
namespace Go.Ev
open Go
abbrev Tr : Type := RT (Int × (Int × (Bytes × Bool)))
abbrev Nd : Type := Int × (Int × (Bytes × (Bool × List Tr)))
def mkT (x : Nd) : Tr := .mk (x.1, (x.2.1, (x.2.2.1, x.2.2.2.1))) x.2.2.2.2
def unT : Tr → Nd
  | .mk x k => (x.1, (x.2.1, (x.2.2.1, (x.2.2.2, k))))
theorem unT_mkT (x : Nd) : unT (mkT x) = x := rfl
def kidsT (t : Tr) : List Tr := (unT t).2.2.2.2
def repOf (c : UInt8) : Int := if c.toNat = 42 then 8 else if c.toNat = 43 then 9 else if c.toNat = 63 then 10 else 0
def rxOr (ks : List Tr) : Nd :=
  match ks with
  | [k] => unT k
  | _ => (7, (0, ([], (false, ks))))
def rxPart (ks : List Tr) : Nd :=
  match ks with
  | [] => (11, (0, ([], (false, []))))
  | [k] => unT k
  | _ => (6, (0, ([], (false, ks))))
def nxt (s : Bytes) (b : Bool) : Option UInt8 := cond b none s.head?
def markL (has : List Bool) (lo : Nat) : Nat → List Bool
  | 0 => has
  | k + 1 => markL (has.set lo true) (lo + 1) k
theorem markL_len : ∀ (k : Nat) (has : List Bool) (lo : Nat), (markL has lo k).length = has.length
  | 0, _, _ => rfl
  | k + 1, has, lo => by rw [markL, markL_len k]; simp
def setB : Bytes → List Bool → Bool → List Bool × Bool
  | [], has, b => (has, b)
  | [lo], has, b => (markL has lo.toNat 1, b)
  | [lo, d], has, b => setB [d] (markL has lo.toNat 1) b
  | lo :: d :: hi :: r, has, b =>
    if d.toNat = 45 ∧ hi.toNat ≠ 93 then setB r (markL has lo.toNat (hi.toNat + 1 - lo.toNat)) (b || decide (hi.toNat < lo.toNat))
    else setB (d :: hi :: r) (markL has lo.toNat 1) b
theorem setB_short (lo : UInt8) (t : Bytes) (has : List Bool) (b : Bool) (h : t.length < 2) : setB (lo :: t) has b = setB t (markL has lo.toNat 1) b := by
  match t, h with
  | [], _ => rfl
  | [d], _ => rfl
theorem setB_one (lo d hi : UInt8) (r : Bytes) (has : List Bool) (b : Bool) (h : ¬ (d.toNat = 45 ∧ hi.toNat ≠ 93)) : setB (lo :: d :: hi :: r) has b = setB (d :: hi :: r) (markL has lo.toNat 1) b := by
  rw [setB, if_neg h]
theorem setB_two (lo d hi : UInt8) (r : Bytes) (has : List Bool) (b : Bool) (h : d.toNat = 45 ∧ hi.toNat ≠ 93) : setB (lo :: d :: hi :: r) has b = setB r (markL has lo.toNat (hi.toNat + 1 - lo.toNat)) (b || decide (hi.toNat < lo.toNat)) := by
  rw [setB, if_pos h]
theorem mark_loop {σ β : Type} {hi : Nat} {L : Nat → Int → List Bool → Option (Sum σ β)} {out : List Bool → σ} (hh : hi < 256)
    (hx : ∀ m (j : Nat) (h : List Bool), j ≤ hi → h.length = 256 → L (m + 1) (j : Int) h = L m (IntKind.wrap .i64 ((j : Int) + (1 : Int))) (h.set j true))
    (he : ∀ m (j : Nat) h, hi < j → L (m + 1) (j : Int) h = some (.inl (out h))) : ∀ k m (j : Nat) h, hi + 1 - j = k → k < m → h.length = 256 → L m (j : Int) h = some (.inl (out (markL h j k)))
  | 0, m, j, h, e, hm, hl => by
    obtain ⟨m, rfl⟩ : ∃ m', m = m' + 1 := ⟨m - 1, by omega⟩
    rw [he m j h (by omega)]; rfl
  | k + 1, m, j, h, e, hm, hl => by
    obtain ⟨m, rfl⟩ : ∃ m', m = m' + 1 := ⟨m - 1, by omega⟩
    rw [hx m j h (by omega) hl, show IntKind.wrap .i64 ((j : Int) + (1 : Int)) = ((j + 1 : Nat) : Int) by rw [IntKind.wrap_i64]; omega, mark_loop hh hx he k m (j + 1) (h.set j true) (by omega) (by omega) (by simp [hl]), markL]
def bytesOf (has : List Bool) : Nat → Bytes
  | 0 => []
  | k + 1 => bytesOf has k ++ cond (has.getD k false) [UInt8.ofNat k] []
theorem bytesOf_len (has : List Bool) : ∀ k, (bytesOf has k).length ≤ k
  | 0 => by simp [bytesOf]
  | k + 1 => by
    have := bytesOf_len has k
    rw [bytesOf, List.length_append]
    cases has.getD k false <;> simp <;> omega
theorem bytes_loop {σ β : Type} {has : List Bool} (hl : has.length = 256) {L : Nat → Nat → Int → Bytes → Option (Sum σ β)} {out : Bytes → σ}
    (hx : ∀ n m (i : Nat) (o : Bytes) (h : i < 256), o.length ≤ i → L n (m + 1) (i : Int) o = L n m (IntKind.wrap .i64 ((i : Int) + (1 : Int))) (o ++ cond (has.getD i false) [UInt8.ofNat i] []))
    (he : ∀ n m o, L n (m + 1) (256 : Int) o = some (.inl (out o))) : Evt fun n => L n n 0 [] = some (.inl (out (bytesOf has 256))) := by
  have := loop_up (len := 256) (L := fun n m i o => L n m (i : Int) o) (fun i o => o = bytesOf has i) (fun x => x = .inl (out (bytesOf has 256))) ?_ ?_
  · exact this.mono fun n h => by
      obtain ⟨x, h1, h2⟩ := h [] rfl
      rw [← h2]; exact h1
  · refine Evt.of fun n m i o hi hinv => .inr ⟨o ++ cond (has.getD i false) [UInt8.ofNat i] [], ?_, by subst hinv; rw [bytesOf]⟩
    have h := hx n m i o hi (by rw [hinv]; exact bytesOf_len has i)
    rw [← wrap_next hi (by omega)]
    exact h
  · exact Evt.of fun n m o hinv => ⟨_, he n m o, by rw [hinv]⟩
theorem u8_of (i : Nat) (h : i < 256) : UInt8.ofNat (Int.toNat (IntKind.wrap .u8 (i : Int))) = UInt8.ofNat i := by
  rw [show IntKind.wrap .u8 (i : Int) = (i : Int) by rw [IntKind.wrap_u8]; omega]; rfl
def notB : Bytes → Bytes × Bool
  | c :: r => if c.toNat = 94 then (r, true) else (c :: r, false)
  | [] => ([], false)
def ne93 (c : UInt8) : Bool := !(decide (c.toNat = 93))
theorem ib_tw : ∀ l : Bytes, Lib.indexByte l 93 = if (l.takeWhile ne93).length = l.length then -1 else ((l.takeWhile ne93).length : Int)
  | [] => rfl
  | a :: l => by
    have ih := ib_tw l
    rw [Lib.indexByte, List.takeWhile_cons]
    by_cases h : a.toNat = 93
    · have : a = 93 := UInt8.toNat_inj.1 h
      subst this
      simp [ne93]
    · have h' : ¬ (a == 93) = true := by
        intro k
        exact h (by rw [beq_iff_eq.1 k]; rfl)
      rw [if_neg h', show ne93 a = true by simp [ne93, h], if_pos rfl, ih]
      simp only [List.length_cons, Nat.add_right_cancel_iff]
      by_cases e : (l.takeWhile ne93).length = l.length
      · simp [e]
      · simp only [e, if_false]
        rw [if_neg (by simp)]
        omega
theorem tw_ne : ∀ l : Bytes, ∀ c ∈ l.takeWhile ne93, c.toNat ≠ 93
  | a :: l, c, h => by
    rw [List.takeWhile_cons] at h
    by_cases e : ne93 a = true
    · rw [if_pos e] at h
      rcases List.mem_cons.1 h with rfl | h
      · simpa [ne93] using e
      · exact tw_ne l c h
    · rw [if_neg e] at h; cases h
theorem tw_take : ∀ l : Bytes, l.take (l.takeWhile ne93).length = l.takeWhile ne93
  | [] => rfl
  | a :: l => by
    rw [List.takeWhile_cons]
    split
    · rw [List.length_cons, List.take_succ_cons, tw_take l]
    · rfl
theorem getD_at {l : List Bool} {i : Nat} (h : i < l.length) : l.getD i false = l[i] := by
  rw [List.getD_eq_getElem?_getD, List.getElem?_eq_getElem h, Option.getD_some]
def has0 : List Bool := List.replicate 256 false
theorem has0_len : has0.length = 256 := List.length_replicate
def setR (s : Bytes) : Nd × (Bytes × Bool) :=
  let s1 := (notB s).1
  let body := s1.takeWhile ne93
  if body.length = s1.length ∨ body = [] then ((0, (0, ([], (false, [])))), (s1, true))
  else ((3, (0, (bytesOf (setB body has0 false).1 256, ((notB s).2, [])))), (s1.drop (body.length + 1), (setB body has0 false).2))
def leaf (o c : Int) : Nd := (o, (c, ([], (false, []))))
def atomR (c : UInt8) (r : Bytes) : Nd × (Bytes × Bool) :=
  if c.toNat = 46 then (leaf 2 0, (r, false)) else if c.toNat = 94 then (leaf 4 0, (r, false)) else if c.toNat = 36 then (leaf 5 0, (r, false))
  else if c.toNat = 91 then setR r
  else if c.toNat = 92 then (match r with | [] => (leaf 0 0, ([], true)) | d :: r' => (leaf 1 d.toNat, (r', false)))
  else if c.toNat = 42 ∨ c.toNat = 43 ∨ c.toNat = 63 then (leaf 0 0, (r, true)) else (leaf 1 c.toNat, (r, false))
def closeR (x : Nd × (Bytes × Bool)) : Nd × (Bytes × Bool) :=
  match nxt x.2.1 x.2.2 with
  | some d => if d.toNat = 41 then (x.1, (x.2.1.tail, x.2.2)) else (x.1, (x.2.1, true))
  | none => (x.1, (x.2.1, true))
inductive Md where
  | pat | patL (ks : List Tr) | part | partL (ks : List Tr) | piece | pieceL (t : Nd) | atom
def iP : Nat → Md → Bytes → Bool → Option (Nd × (Bytes × Bool))
  | 0, _, _, _ => none
  | f + 1, .pat, s, b => (iP f .part s b).bind fun r => iP f (.patL [mkT r.1]) r.2.1 r.2.2
  | f + 1, .patL ks, s, b =>
    match nxt s b with
    | none => some (rxOr ks, (s, b))
    | some c => if c.toNat = 124 then (iP f .part s.tail b).bind fun r => iP f (.patL (ks ++ [mkT r.1])) r.2.1 r.2.2 else some (rxOr ks, (s, b))
  | f + 1, .part, s, b => iP f (.partL []) s b
  | f + 1, .partL ks, s, b =>
    match nxt s b with
    | none => some (rxPart ks, (s, b))
    | some c => if c.toNat = 124 ∨ c.toNat = 41 then some (rxPart ks, (s, b)) else (iP f .piece s b).bind fun r => iP f (.partL (ks ++ [mkT r.1])) r.2.1 r.2.2
  | f + 1, .piece, s, b => (iP f .atom s b).bind fun r => iP f (.pieceL r.1) r.2.1 r.2.2
  | f + 1, .pieceL t, s, b =>
    match nxt s b with
    | none => some (t, (s, b))
    | some c => if repOf c = 0 then some (t, (s, b)) else iP f (.pieceL (repOf c, (0, ([], (false, [mkT t]))))) s.tail b
  | _ + 1, .atom, [], _ => none
  | f + 1, .atom, c :: r, b => if c.toNat = 40 then (iP f .pat r b).bind fun x => some (closeR x) else some (atomR c r)
inductive SmT : Tr → Prop
  | mk {t : Tr} (h : (kidsT t).length ≤ 100) (k : ∀ x ∈ kidsT t, SmT x) : SmT t
def SmN (x : Nd) : Prop := x.2.2.2.2.length ≤ 100 ∧ ∀ k ∈ x.2.2.2.2, SmT k
theorem SmT_mk {x : Nd} (h : SmN x) : SmT (mkT x) := .mk h.1 h.2
theorem SmN_un {t : Tr} (h : SmT t) : SmN (unT t) := by
  obtain ⟨h, k⟩ := h
  exact ⟨h, k⟩
theorem SmN_leaf (o c : Int) : SmN (leaf o c) := ⟨by simp [leaf], by simp [leaf]⟩
def MdOk : Md → Bytes → Prop
  | .patL ks, s => ks.length + s.length ≤ 61 ∧ ∀ k ∈ ks, SmT k
  | .partL ks, s => ks.length + s.length ≤ 61 ∧ ∀ k ∈ ks, SmT k
  | .pieceL t, _ => SmN t
  | _, _ => True
def MdLt : Md → Nat → Nat → Prop
  | .atom, a, b => a < b
  | .piece, a, b => a < b
  | _, a, b => a ≤ b
def MdPre : Md → Bytes → Bool → Prop
  | .atom, s, b => s ≠ [] ∧ b = false
  | .piece, s, b => s ≠ [] ∧ b = false
  | _, _, _ => True
theorem nxt_some {s : Bytes} {b : Bool} {c : UInt8} (h : nxt s b = some c) : b = false ∧ s = c :: s.tail := by
  unfold nxt at h
  cases b
  · refine ⟨rfl, ?_⟩
    cases s with
    | nil => simp at h
    | cons a r => simp at h; subst h; rfl
  · simp at h
theorem SmN_or {ks : List Tr} (h : ks.length ≤ 100) (k : ∀ x ∈ ks, SmT x) : SmN (rxOr ks) := by
  match ks, h, k with
  | [a], _, k => exact SmN_un (k a (by simp))
  | [], _, _ => exact ⟨by simp [rxOr], by simp [rxOr]⟩
  | a :: b :: r, h, k => exact ⟨h, k⟩
theorem SmN_part {ks : List Tr} (h : ks.length ≤ 100) (k : ∀ x ∈ ks, SmT x) : SmN (rxPart ks) := by
  match ks, h, k with
  | [a], _, k => exact SmN_un (k a (by simp))
  | [], _, _ => exact ⟨by simp [rxPart], by simp [rxPart]⟩
  | a :: b :: r, h, k => exact ⟨h, k⟩
theorem notB_len (s : Bytes) : (notB s).1.length ≤ s.length := by
  cases s with
  | nil => simp [notB]
  | cons c r =>
    show (if c.toNat = 94 then (r, true) else (c :: r, false)).1.length ≤ _
    split <;> simp
theorem setR_ok (s : Bytes) : SmN (setR s).1 ∧ (setR s).2.1.length ≤ s.length := by
  have := notB_len s
  unfold setR
  simp only
  split
  · exact ⟨⟨by simp, by simp⟩, this⟩
  · exact ⟨⟨by simp, by simp⟩, by simp; omega⟩
theorem atomI_ok (c : UInt8) (r : Bytes) : SmN (atomR c r).1 ∧ (atomR c r).2.1.length ≤ r.length := by
  have := setR_ok r
  unfold atomR
  repeat' split
  all_goals first
    | exact this
    | exact ⟨SmN_leaf _ _, by simp⟩
theorem closeI_ok (x : Nd × (Bytes × Bool)) : (closeR x).1 = x.1 ∧ (closeR x).2.1.length ≤ x.2.1.length ∧ (x.2.2 = true → (closeR x).2.2 = true) := by
  unfold closeR
  repeat' split
  all_goals refine ⟨rfl, ?_, ?_⟩
  all_goals simp
theorem iP_ok : ∀ f md s b r, iP f md s b = some r → s.length ≤ 60 → MdPre md s b → MdOk md s → SmN r.1 ∧ MdLt md r.2.1.length s.length ∧ (b = true → r.2.2 = true) := by
  intro f
  induction f with
  | zero => intro md s b r h; simp [iP] at h
  | succ f ih =>
    intro md s b r h hs hpre hok
    cases md with
    | pat =>
      simp only [iP, Option.bind_eq_some_iff] at h
      obtain ⟨x, h1, h2⟩ := h
      obtain ⟨a1, a2, a3⟩ := ih _ _ _ _ h1 hs trivial trivial
      simp only [MdLt] at a2
      obtain ⟨c1, c2, c3⟩ := ih _ _ _ _ h2 (by omega) trivial ⟨by simp; omega, by simpa using SmT_mk a1⟩
      simp only [MdLt] at c2 ⊢
      exact ⟨c1, by omega, fun k => c3 (a3 k)⟩
    | patL ks =>
      simp only [iP] at h
      split at h
      · cases h; exact ⟨SmN_or (by have := hok.1; omega) hok.2, Nat.le_refl _, id⟩
      · rename_i c hn
        obtain ⟨rfl, e⟩ := nxt_some hn
        have hl : s.length = s.tail.length + 1 := by rw [e]; simp
        split at h
        · simp only [Option.bind_eq_some_iff] at h
          obtain ⟨x, h1, h2⟩ := h
          obtain ⟨a1, a2, a3⟩ := ih _ _ _ _ h1 (by omega) trivial trivial
          simp only [MdLt] at a2
          obtain ⟨c1, c2, c3⟩ := ih _ _ _ _ h2 (by omega) trivial ⟨by have := hok.1; simp; omega, by
            intro k hk
            rcases List.mem_append.1 hk with hk | hk
            · exact hok.2 k hk
            · simp at hk; subst hk; exact SmT_mk a1⟩
          simp only [MdLt] at c2 ⊢
          exact ⟨c1, by omega, fun k => by cases k⟩
        · cases h; exact ⟨SmN_or (by have := hok.1; omega) hok.2, Nat.le_refl _, id⟩
    | part =>
      simp only [iP] at h
      have := ih (.partL []) _ _ _ h hs trivial ⟨by simp; omega, by simp⟩
      exact this
    | partL ks =>
      simp only [iP] at h
      split at h
      · cases h; exact ⟨SmN_part (by have := hok.1; omega) hok.2, Nat.le_refl _, id⟩
      · rename_i c hn
        obtain ⟨rfl, e⟩ := nxt_some hn
        split at h
        · cases h; exact ⟨SmN_part (by have := hok.1; omega) hok.2, Nat.le_refl _, id⟩
        · simp only [Option.bind_eq_some_iff] at h
          obtain ⟨x, h1, h2⟩ := h
          obtain ⟨a1, a2, a3⟩ := ih _ _ _ _ h1 hs ⟨by rw [e]; simp, rfl⟩ trivial
          simp only [MdLt] at a2
          obtain ⟨c1, c2, c3⟩ := ih _ _ _ _ h2 (by omega) trivial ⟨by have := hok.1; simp; omega, by
            intro k hk
            rcases List.mem_append.1 hk with hk | hk
            · exact hok.2 k hk
            · simp at hk; subst hk; exact SmT_mk a1⟩
          simp only [MdLt] at c2 ⊢
          exact ⟨c1, by omega, fun k => by cases k⟩
    | piece =>
      simp only [iP, Option.bind_eq_some_iff] at h
      obtain ⟨x, h1, h2⟩ := h
      obtain ⟨a1, a2, a3⟩ := ih _ _ _ _ h1 hs hpre trivial
      simp only [MdLt] at a2
      obtain ⟨c1, c2, c3⟩ := ih _ _ _ _ h2 (by omega) trivial a1
      simp only [MdLt] at c2 ⊢
      exact ⟨c1, by omega, fun k => c3 (a3 k)⟩
    | pieceL t =>
      simp only [iP] at h
      split at h
      · cases h; exact ⟨hok, Nat.le_refl _, id⟩
      · rename_i c hn
        obtain ⟨rfl, e⟩ := nxt_some hn
        have hl : s.length = s.tail.length + 1 := by rw [e]; simp
        split at h
        · cases h; exact ⟨hok, Nat.le_refl _, id⟩
        · obtain ⟨c1, c2, c3⟩ := ih _ _ _ _ h (by omega) trivial ⟨by simp, by simpa using SmT_mk hok⟩
          simp only [MdLt] at c2 ⊢
          exact ⟨c1, by omega, fun k => by cases k⟩
    | atom =>
      obtain ⟨hne, rfl⟩ := hpre
      cases s with
      | nil => exact absurd rfl hne
      | cons c rr =>
        simp only [List.length_cons] at hs
        simp only [iP] at h
        split at h
        · simp only [Option.bind_eq_some_iff] at h
          obtain ⟨x, h1, h2⟩ := h
          obtain ⟨a1, a2, a3⟩ := ih _ _ _ _ h1 (by omega) trivial trivial
          cases h2
          obtain ⟨e1, e2, e3⟩ := closeI_ok x
          simp only [MdLt] at a2
          rw [e1]
          exact ⟨a1, by simp only [MdLt, List.length_cons]; omega, fun k => by cases k⟩
        · cases h
          obtain ⟨e1, e2⟩ := atomI_ok c rr
          exact ⟨e1, by simp only [MdLt, List.length_cons]; omega, fun k => by cases k⟩
def need : Md → Nat → Nat
  | .atom, l => 8 * l + 1
  | .piece, l => 8 * l + 2
  | .partL _, l => 8 * l + 3
  | .part, l => 8 * l + 4
  | .pat, l => 8 * l + 5
  | .patL _, l => 8 * l + 1
  | .pieceL _, l => 8 * l + 1
theorem iP_all : ∀ f md s b, need md s.length ≤ f → s.length ≤ 60 → MdPre md s b → MdOk md s → ∃ r, iP f md s b = some r := by
  intro f
  induction f with
  | zero => intro md s b h; cases md <;> simp [need] at h
  | succ f ih =>
    intro md s b hf hs hpre hok
    cases md with
    | pat =>
      simp only [need] at hf
      obtain ⟨x, h1⟩ := ih .part s b (by simp only [need]; omega) hs trivial trivial
      obtain ⟨a1, a2, a3⟩ := iP_ok _ _ _ _ _ h1 hs trivial trivial
      simp only [MdLt] at a2
      obtain ⟨y, h2⟩ := ih (.patL [mkT x.1]) x.2.1 x.2.2 (by simp only [need]; omega) (by omega) trivial ⟨by simp; omega, by simpa using SmT_mk a1⟩
      exact ⟨y, by simp only [iP, h1, Option.bind_some, h2]⟩
    | patL ks =>
      simp only [need] at hf
      simp only [iP]
      split
      · exact ⟨_, rfl⟩
      · rename_i c hn
        obtain ⟨rfl, e⟩ := nxt_some hn
        have hl : s.length = s.tail.length + 1 := by rw [e]; simp
        split
        · obtain ⟨x, h1⟩ := ih .part s.tail false (by simp only [need]; omega) (by omega) trivial trivial
          obtain ⟨a1, a2, a3⟩ := iP_ok _ _ _ _ _ h1 (by omega) trivial trivial
          simp only [MdLt] at a2
          obtain ⟨y, h2⟩ := ih (.patL (ks ++ [mkT x.1])) x.2.1 x.2.2 (by simp only [need]; omega) (by omega) trivial ⟨by have := hok.1; simp; omega, by
            intro k hk
            rcases List.mem_append.1 hk with hk | hk
            · exact hok.2 k hk
            · simp at hk; subst hk; exact SmT_mk a1⟩
          exact ⟨y, by rw [h1]; exact h2⟩
        · exact ⟨_, rfl⟩
    | part =>
      simp only [need] at hf
      simp only [iP]
      exact ih _ _ _ (by simp only [need]; omega) hs trivial ⟨by simp; omega, by simp⟩
    | partL ks =>
      simp only [need] at hf
      simp only [iP]
      split
      · exact ⟨_, rfl⟩
      · rename_i c hn
        obtain ⟨rfl, e⟩ := nxt_some hn
        split
        · exact ⟨_, rfl⟩
        · have hpre' : MdPre .piece s false := ⟨by rw [e]; simp, rfl⟩
          obtain ⟨x, h1⟩ := ih .piece s false (by simp only [need]; omega) hs hpre' trivial
          obtain ⟨a1, a2, a3⟩ := iP_ok _ _ _ _ _ h1 (by omega) hpre' trivial
          simp only [MdLt] at a2
          obtain ⟨y, h2⟩ := ih (.partL (ks ++ [mkT x.1])) x.2.1 x.2.2 (by simp only [need]; omega) (by omega) trivial ⟨by have := hok.1; simp; omega, by
            intro k hk
            rcases List.mem_append.1 hk with hk | hk
            · exact hok.2 k hk
            · simp at hk; subst hk; exact SmT_mk a1⟩
          exact ⟨y, by rw [h1]; exact h2⟩
    | piece =>
      simp only [need] at hf
      obtain ⟨x, h1⟩ := ih .atom s b (by simp only [need]; omega) hs hpre trivial
      obtain ⟨a1, a2, a3⟩ := iP_ok _ _ _ _ _ h1 hs hpre trivial
      simp only [MdLt] at a2
      obtain ⟨y, h2⟩ := ih (.pieceL x.1) x.2.1 x.2.2 (by simp only [need]; omega) (by omega) trivial a1
      exact ⟨y, by simp only [iP, h1, Option.bind_some, h2]⟩
    | pieceL t =>
      simp only [need] at hf
      simp only [iP]
      split
      · exact ⟨_, rfl⟩
      · rename_i c hn
        obtain ⟨rfl, e⟩ := nxt_some hn
        have hl : s.length = s.tail.length + 1 := by rw [e]; simp
        split
        · exact ⟨_, rfl⟩
        · exact ih _ _ _ (by simp only [need]; omega) (by omega) trivial ⟨by simp, by simpa using SmT_mk hok⟩
    | atom =>
      obtain ⟨hne, rfl⟩ := hpre
      cases s with
      | nil => exact absurd rfl hne
      | cons c rr =>
        simp only [need, List.length_cons] at hf hs
        simp only [iP]
        split
        · obtain ⟨x, h1⟩ := ih .pat rr false (by simp only [need]; omega) (by omega) trivial trivial
          exact ⟨closeR x, by rw [h1]; rfl⟩
        · exact ⟨_, rfl⟩
mutual
def deepT : Tr → Int
  | .mk _ ks => IntKind.wrap .i64 (deepL 0 ks + 1)
def deepL : Int → List Tr → Int
  | a, [] => a
  | a, t :: r => deepL (cond (decide (a < deepT t)) (deepT t) a) r
end
def rexF (s : Bytes) : Int × (Int × (Bytes × (Bool × (List Tr × Bool)))) :=
  if s.length ≤ 60 then
    match iP 1000 .pat s false with
    | some r => if r.2.2 = false ∧ r.2.1 = [] ∧ deepT (mkT r.1) ≤ 12 then (r.1.1, (r.1.2.1, (r.1.2.2.1, (r.1.2.2.2.1, (r.1.2.2.2.2, true))))) else (0, (0, ([], (false, ([], false)))))
    | none => (0, (0, ([], (false, ([], false)))))
  else (0, (0, ([], (false, ([], false)))))
end Go.Ev
namespace Go.Ev
open Go
def dig (c : UInt8) : Bool := decide (48 ≤ c.toNat ∧ c.toNat ≤ 57)
def is32 (c : UInt8) : Bool := decide (c.toNat = 32)
def is48 (c : UInt8) : Bool := decide (c.toNat = 48)
def valN (l : Bytes) : Nat := l.foldl (fun a c => a * 10 + (c.toNat - 48)) 0
def frU : Nat → Bytes → Nat
  | _, [] => 0
  | u, c :: l => (c.toNat - 48) * u + frU (u / 10) l
theorem valN_snoc (l : Bytes) (c : UInt8) : valN (l ++ [c]) = valN l * 10 + (c.toNat - 48) := by
  unfold valN
  rw [List.foldl_append]
  rfl
theorem foldl_val : ∀ (l : Bytes) (a : Nat), l.foldl (fun a c => a * 10 + (c.toNat - 48)) a = a * 10 ^ l.length + valN l
  | [], a => by simp [valN]
  | c :: l, a => by
    have h1 := foldl_val l (a * 10 + (c.toNat - 48))
    have h2 := foldl_val l (0 * 10 + (c.toNat - 48))
    have h3 : valN (c :: l) = (0 * 10 + (c.toNat - 48)) * 10 ^ l.length + valN l := h2
    rw [List.foldl_cons, h1, h3, List.length_cons, Nat.pow_succ, Nat.add_mul, Nat.add_mul, Nat.zero_mul, Nat.mul_comm (10 ^ l.length) 10, Nat.mul_assoc]
    simp only [Nat.zero_add, Nat.add_assoc]
theorem valN_append (a b : Bytes) : valN (a ++ b) = valN a * 10 ^ b.length + valN b := by
  show (a ++ b).foldl _ 0 = _
  rw [List.foldl_append, foldl_val]
  rfl
theorem valN_cons (c : UInt8) (l : Bytes) : valN (c :: l) = (c.toNat - 48) * 10 ^ l.length + valN l := by
  have := valN_append [c] l
  rw [List.singleton_append] at this
  rw [this]
  simp [valN]
theorem decFrom_dig : ∀ (l : Bytes) (a : Nat), (∀ c ∈ l, dig c = true) → Lib.decFrom a l = some (a * 10 ^ l.length + valN l)
  | [], a, _ => by simp [Lib.decFrom, valN]
  | c :: l, a, h => by
    have h2 := h c (by simp)
    simp only [dig, decide_eq_true_eq] at h2
    have h1 := decFrom_dig l (a * 10 + (c.toNat - 48)) fun x hx => h x (by simp [hx])
    rw [Lib.decFrom, Lib.digitVal, if_pos h2]
    simp only
    rw [h1, valN_cons, List.length_cons, Nat.pow_succ, Nat.add_mul, Nat.mul_comm (10 ^ l.length) 10, ← Nat.mul_assoc]
    congr 1
    omega
theorem frU_zero : ∀ l : Bytes, frU 0 l = 0
  | [] => rfl
  | c :: l => by rw [frU]; simp [frU_zero l]
theorem frU_le : ∀ (l : Bytes) (k : Nat), (∀ c ∈ l, dig c = true) → frU (10 ^ k) l < 10 ^ (k + 1)
  | [], k, _ => by rw [frU]; exact Nat.pow_pos (by omega)
  | c :: l, k, h => by
    have h2 := h c (by simp)
    simp only [dig, decide_eq_true_eq] at h2
    rw [frU]
    cases k with
    | zero =>
      simp [frU_zero]
      omega
    | succ k =>
      have h1 := frU_le l k fun x hx => h x (by simp [hx])
      have e : 10 ^ (k + 1) / 10 = 10 ^ k := by rw [Nat.pow_succ]; omega
      have : (c.toNat - 48) * 10 ^ (k + 1) ≤ 9 * 10 ^ (k + 1) := Nat.mul_le_mul_right _ (by omega)
      rw [e, Nat.pow_succ 10 (k + 1)]
      omega
def zeros (k : Nat) : Bytes := List.replicate k 48
theorem valN_zeros : ∀ k, valN (zeros k) = 0
  | 0 => rfl
  | k + 1 => by
    show valN (48 :: zeros k) = 0
    rw [valN_cons, valN_zeros k]
    simp
theorem frU_val : ∀ (k : Nat) (l : Bytes), valN ((l ++ zeros (k + 1)).take (k + 1)) = frU (10 ^ k) l
  | k, [] => by
    rw [List.nil_append, List.take_of_length_le (by simp [zeros]), valN_zeros]
    rfl
  | 0, c :: l => by
    rw [List.cons_append, List.take_succ_cons, frU]
    simp [valN, frU_zero]
  | k + 1, c :: l => by
    have e : (l ++ zeros (k + 2)).take (k + 1) = (l ++ zeros (k + 1)).take (k + 1) := by
      have : zeros (k + 2) = zeros (k + 1) ++ [48] := List.replicate_succ'
      rw [this, ← List.append_assoc, List.take_append_of_le_length (by simp [zeros])]
    rw [List.cons_append, List.take_succ_cons, valN_cons, e, frU_val k l, frU]
    have h1 : ((l ++ zeros (k + 1)).take (k + 1)).length = k + 1 := by simp [zeros]
    have h2 : 10 ^ (k + 1) / 10 = 10 ^ k := by rw [Nat.pow_succ]; omega
    rw [h1, h2]
def tailF (s : Bytes) (k : Nat) (neg : Bool) : Int × Int :=
  let w := (s.drop k).takeWhile dig
  let q := match s.drop (k + w.length) with
    | c :: t => if c.toNat = 46 then t.takeWhile dig else []
    | [] => []
  let x := valN w * 1000000 + frU 100000 q
  if w = [] ∧ q = [] then (0, 0) else if 9000000000000 < x then (0, 0) else (cond neg (-(x : Int)) x, ((k + w.length + (if q = [] then 0 else 1 + q.length) : Nat) : Int))
def frontF (s : Bytes) : Int × Int :=
  let p := (s.takeWhile is32).length
  match s.drop p with
  | c :: _ => if c.toNat = 45 then tailF s (p + 1) true else if c.toNat = 43 then tailF s (p + 1) false else tailF s p false
  | [] => tailF s p false
noncomputable def declF (s : Bytes) : Int × Bool :=
  if (frontF s).2 = 0 then (0, false) else cond (bo (∀ c ∈ s.drop (frontF s).2.toNat, c.toNat = 32)) ((frontF s).1, true) (0, false)
def PW (l : Bytes) (x : Int) : Prop := 0 ≤ x ∧ x ≤ 90009000000000 ∧ (valN l * 1000000 ≤ 9000000000000 → x = valN l * 1000000) ∧ (9000000000000 < valN l * 1000000 → 9000000000000 < x)
theorem PW_nil : PW [] 0 := by simp [PW, valN]
theorem PW_snoc {l : Bytes} {x : Int} (h : PW l x) {c : UInt8} (hc : dig c = true) : PW (l ++ [c]) (if x ≤ 9000000000000 then 10 * x + ((c.toNat : Int) - 48) * 1000000 else x) := by
  simp only [dig, decide_eq_true_eq] at hc
  obtain ⟨h0, h1, h2, h3⟩ := h
  unfold PW
  rw [valN_snoc]
  by_cases hx : x ≤ 9000000000000
  · rw [if_pos hx]
    have : valN l * 1000000 ≤ 9000000000000 := by
      rcases Nat.lt_or_ge 9000000000000 (valN l * 1000000) with q | q
      · have := h3 q; omega
      · exact q
    have := h2 this
    refine ⟨by omega, by omega, fun _ => by omega, fun _ => by omega⟩
  · rw [if_neg hx]
    have : 9000000000000 < valN l * 1000000 := by
      rcases Nat.lt_or_ge 9000000000000 (valN l * 1000000) with q | q
      · exact q
      · have := h2 q; omega
    refine ⟨h0, h1, fun _ => by omega, fun _ => by omega⟩
theorem tw_dig (l : Bytes) : ∀ c ∈ l.takeWhile dig, dig c = true := by
  intro c hc
  induction l with
  | nil => cases hc
  | cons a l ih =>
    rw [List.takeWhile_cons] at hc
    by_cases e : dig a = true
    · rw [if_pos e] at hc
      rcases List.mem_cons.1 hc with rfl | hc
      · exact e
      · exact ih hc
    · rw [if_neg e] at hc; cases hc
theorem valN_drop0 : ∀ l : Bytes, valN (l.dropWhile is48) = valN l
  | [] => rfl
  | c :: l => by
    rw [List.dropWhile_cons]
    by_cases h : is48 c = true
    · rw [if_pos h, valN_drop0 l, valN_cons]
      simp only [is48, decide_eq_true_eq] at h
      rw [h]; simp
    · rw [if_neg h]
theorem drop0_big : ∀ l : Bytes, (∀ c ∈ l, dig c = true) → 7 < (l.dropWhile is48).length → 10000000 ≤ valN l
  | [], _, h => by simp at h
  | c :: l, hd, h => by
    rw [List.dropWhile_cons] at h
    by_cases e : is48 c = true
    · rw [if_pos e] at h
      have := drop0_big l (fun x hx => hd x (by simp [hx])) h
      rw [valN_cons]
      omega
    · rw [if_neg e] at h
      have h1 := hd c (by simp)
      simp only [is48, decide_eq_true_eq] at e
      simp only [dig, decide_eq_true_eq] at h1
      simp only [List.length_cons] at h
      have h2 : 10 ^ 7 ≤ 10 ^ l.length := Nat.pow_le_pow_right (by omega) (by omega)
      have h3 : 1 * 10 ^ l.length ≤ (c.toNat - 48) * 10 ^ l.length := Nat.mul_le_mul_right _ (by omega)
      rw [valN_cons]
      omega
theorem dw_dig (l : Bytes) (h : ∀ c ∈ l, dig c = true) : ∀ c ∈ l.dropWhile is48, dig c = true := fun c hc => h c ((List.dropWhile_sublist _).subset hc)
theorem take_dig (l : Bytes) (h : ∀ c ∈ l, dig c = true) (k : Nat) : ∀ c ∈ (l ++ zeros k).take k, dig c = true := by
  intro c hc
  have := List.mem_of_mem_take hc
  rcases List.mem_append.1 this with q | q
  · exact h c q
  · unfold zeros at q
    rw [List.eq_of_mem_replicate q]
    rfl
theorem atoi_val (w q : Bytes) (hw : ∀ c ∈ w, dig c = true) (hq : ∀ c ∈ q, dig c = true) :
    Lib.atoi (([48] ++ w.dropWhile is48) ++ (q ++ zeros 6).take 6) = some ((valN w * 1000000 + frU 100000 q : Nat) : Int) := by
  have h1 : ∀ c ∈ (([48] ++ w.dropWhile is48) ++ (q ++ zeros 6).take 6 : Bytes), dig c = true := by
    intro c hc
    rcases List.mem_append.1 hc with k | k
    · rcases List.mem_append.1 k with k | k
      · rw [List.mem_singleton.1 k]; rfl
      · exact dw_dig w hw c k
    · exact take_dig q hq 6 c k
  have h2 := decFrom_dig _ 0 h1
  have h3 : valN (([48] ++ w.dropWhile is48) ++ (q ++ zeros 6).take 6 : Bytes) = valN w * 1000000 + frU 100000 q := by
    rw [valN_append, valN_append, valN_drop0, frU_val 5 q]
    have : ((q ++ zeros 6).take 6).length = 6 := by simp [zeros]
    rw [this]
    simp [valN]
  rw [h3, Nat.zero_mul, Nat.zero_add] at h2
  have h4 : Lib.atoi (([48] ++ w.dropWhile is48) ++ (q ++ zeros 6).take 6) = (Lib.decNat (([48] ++ w.dropWhile is48) ++ (q ++ zeros 6).take 6)).map fun (m : Nat) => (m : Int) := rfl
  rw [h4]
  unfold Lib.decNat
  rw [if_neg (by simp), h2]
  rfl
end Go.Ev
namespace Go.Ev
open Go
def Letter (b : UInt8) : Prop := (97 ≤ b.toNat ∧ b.toNat ≤ 122) ∨ (65 ≤ b.toNat ∧ b.toNat ≤ 90)
def kws : List Bytes := [[66, 69, 71, 73, 78], [112, 114, 105, 110, 116], [105, 102], [101, 108, 115, 101], [119, 104, 105, 108, 101], [110, 101, 120, 116], [100, 101, 108, 101, 116, 101], [78, 82], [78, 70]]
def callsL : List Bytes := [[108, 101, 110, 103, 116, 104], [115, 117, 98, 115, 116, 114], [105, 110, 100, 101, 120], [105, 110, 116], [117, 112, 112, 101, 114], [108, 111, 119, 101, 114]]
def Key (s : Bytes) : Prop := s ∈ kws ∨ s ∈ callsL
def NameOk (s : Bytes) : Prop := (∀ b ∈ s, Letter b) ∧ 1 ≤ s.length ∧ s.length ≤ 8 ∧ ¬ Key s
def OrdAt (l : List Bytes) (i : Nat) : Prop := ∀ h : i < l.length, 0 < i → Op.bytesLess (l[i - 1]'(by omega)) l[i] = true
def DecB (x : Int) : Prop := In x (-9000000000000) 9000000000000
def OpWd (c k : Int) (s : Bytes) (n vars cells : Int) : Prop :=
  (c = 1 ∧ DecB k ∧ s = []) ∨ (c = 2 ∧ k = 0) ∨ ((c = 3 ∨ c = 4 ∨ c = 5) ∧ 0 ≤ k ∧ k < vars ∧ s = []) ∨ ((c = 6 ∨ c = 7 ∨ c = 8 ∨ c = 35) ∧ 0 ≤ k ∧ k < cells ∧ s = []) ∨
  ((c = 24 ∨ c = 25) ∧ k = 0 ∧ (rexF s).2.2.2.2.2 = true) ∨ (c = 29 ∧ 1 ≤ k ∧ k ≤ 3 ∧ s ∈ callsL) ∨ ((c = 30 ∨ c = 31) ∧ 0 ≤ k ∧ k ≤ n - 1 ∧ s = []) ∨ (c = 33 ∧ 0 ≤ k ∧ k ≤ 1 ∧ s = []) ∨
  (1 ≤ c ∧ c ≤ 36 ∧ c ≠ 1 ∧ c ≠ 2 ∧ c ≠ 3 ∧ c ≠ 4 ∧ c ≠ 5 ∧ c ≠ 6 ∧ c ≠ 7 ∧ c ≠ 8 ∧ c ≠ 35 ∧ c ≠ 24 ∧ c ≠ 25 ∧ c ≠ 29 ∧ c ≠ 30 ∧ c ≠ 31 ∧ c ≠ 33 ∧ k = 0 ∧ s = [])
def OpsWd (l : List (Int × (Int × Bytes))) (vars cells : Int) : Prop :=
  1 ≤ l.length ∧ l.length ≤ 1500 ∧ (∀ h : 0 < l.length, (l[l.length - 1]'(by omega)).1 = 36) ∧ ∀ o ∈ l, OpWd o.1 o.2.1 o.2.2 l.length vars cells
def ProgOk (vars cells : List Bytes) (start main : List (Int × (Int × Bytes))) : Prop :=
  (∀ s ∈ vars, NameOk s) ∧ (∀ s ∈ vars, s ∉ cells) ∧ (∀ i, i < vars.length → OrdAt vars i) ∧ (∀ s ∈ cells, NameOk s) ∧ (∀ i, i < cells.length → OrdAt cells i) ∧ vars.length ≤ 8 ∧ cells.length ≤ 8 ∧ OpsWd start vars.length cells.length ∧ OpsWd main vars.length cells.length
def ValOk (k x : Int) (s : Bytes) : Prop := DecB x ∧ s.length ≤ 300 ∧ ((k = 0 ∧ x = 0 ∧ s = []) ∨ (k = 1 ∧ s = []) ∨ (k = 2 ∧ x = 0) ∨ (k = 3 ∧ declF s = (x, true)))
def CellLess (a : Int) (s : Bytes) (b : Int) (t : Bytes) : Prop := a < b ∨ (a = b ∧ Op.bytesLess s t = true)
def CellOk (l : List (Int × (Bytes × (Int × (Int × Bytes))))) (cells : Int) (i : Nat) : Prop :=
  ∀ h : i < l.length, 0 ≤ l[i].1 ∧ l[i].1 < cells ∧ l[i].2.1.length ≤ 300 ∧ ValOk l[i].2.2.1 l[i].2.2.2.1 l[i].2.2.2.2 ∧ (0 < i → CellLess (l[i - 1]'(by omega)).1 (l[i - 1]'(by omega)).2.1 l[i].1 l[i].2.1)
def StateOk (vs : List (Int × (Int × Bytes))) (cs : List (Int × (Bytes × (Int × (Int × Bytes))))) (nr err vars cells : Int) : Prop :=
  (∀ v ∈ vs, ValOk v.1 v.2.1 v.2.2) ∧ (∀ i, i < cs.length → CellOk cs cells i) ∧ (vs.length : Int) = vars ∧ cs.length ≤ 40 ∧ In nr 0 1000000 ∧ In err 0 7
def MachOk (vars cells : List Bytes) (start main : List (Int × (Int × Bytes))) (vs : List (Int × (Int × Bytes))) (cs : List (Int × (Bytes × (Int × (Int × Bytes))))) (nr err : Int) (done : List Int) (out : Bytes) : Prop :=
  (∀ x ∈ done, In x 0 100000) ∧ ProgOk vars cells start main ∧ StateOk vs cs nr err vars.length cells.length ∧ done.length = 3 ∧ out.length ≤ 1500
def CmdOk (who seq : Int) (s : Bytes) : Prop := (who = -1 ∧ seq = 0 ∧ s = []) ∨ (0 ≤ who ∧ who ≤ 2 ∧ 1 ≤ seq ∧ seq ≤ 100000 ∧ s.length ≤ 60 ∧ ∀ b ∈ s, b.toNat ≠ 10)
def lastF (base term : Int) (l : List (Int × (Int × (Int × Bytes)))) : Int × Int := match l.getLast? with | none => (base, term) | some e => (IntKind.wrap .i64 (base + l.length), e.1)
def EntsOk : Int → List (Int × (Int × (Int × Bytes))) → Prop
  | _, [] => True
  | t, e :: r => In e.1 t 300 ∧ CmdOk e.2.1 e.2.2.1 e.2.2.2 ∧ EntsOk e.1 r
def LogOk (base term : Int) (l : List (Int × (Int × (Int × Bytes)))) : Prop := In base 0 300 ∧ In term 0 300 ∧ base + l.length ≤ 300 ∧ EntsOk term l
def HardOk (vars cells : List Bytes) (start main : List (Int × (Int × Bytes))) (tm vote base bt : Int) (l : List (Int × (Int × (Int × Bytes)))) (vs : List (Int × (Int × Bytes))) (cs : List (Int × (Bytes × (Int × (Int × Bytes))))) (nr err : Int) (done : List Int) (out : Bytes) : Prop :=
  In tm 0 300 ∧ In vote (-1) 4 ∧ LogOk base bt l ∧ (lastF base bt l).2 ≤ tm ∧ MachOk vars cells start main vs cs nr err done out
def EntWd (most : Int) (e : Int × (Int × (Int × Bytes))) : Prop := In e.1 0 most ∧ CmdOk e.2.1 e.2.2.1 e.2.2.2
def RpcOk (k f t tm ix it cm : Int) (l : List (Int × (Int × (Int × Bytes)))) (snap : Bytes) (size : Int) : Prop :=
  In k 1 5 ∧ In size 1 5 ∧ In f 0 (IntKind.wrap .i64 (size - 1)) ∧ In t 0 (IntKind.wrap .i64 (size - 1)) ∧ f ≠ t ∧ In tm 0 300 ∧ In ix 0 300 ∧ In it 0 300 ∧ In cm 0 300 ∧ (∀ e ∈ l, EntWd tm e) ∧ l.length ≤ 40 ∧ snap.length ≤ 30000
end Go.Ev
namespace Go.Ev
open Go.WideShapes Go.RowKit
structure Par where
  t : TypeId
  agg : Bool
  cts : List CT
def Par.kv (p : Par) : TVK := match p.agg, p.cts with
  | false, [c] => .one (shK c)
  | _, cts => .agg (cts.map shK)
def Par.sh (p : Par) (v : Value) : Prop := match p.agg, p.cts with
  | false, [_] => v.cells = #[v]
  | _, _ => ∃ arr, v = .agg arr
theorem fits_of_append : ∀ {a b : List Dat}, Dat.fit.fits a → Dat.fit.fits b → Dat.fit.fits (a ++ b)
  | [], _, _, h => h
  | d :: a, b, h, k => by
    simp only [List.cons_append, Dat.fit.fits] at h ⊢
    exact ⟨h.1, fits_of_append h.2 k⟩
theorem Typed.app : ∀ {a b : List CT} {x y : List DV}, Typed a x → Typed b y → Typed (a ++ b) (x ++ y)
  | [], _, _, _, h, k => by
    simp only [Typed] at h
    subst h
    exact k
  | c :: a, b, _, y, h, k => by
    simp only [Typed] at h
    obtain ⟨x, r, rfl, h⟩ := h
    simp only [List.cons_append, Typed]
    exact ⟨x, r ++ y, rfl, Typed.app h k⟩
section
variable {T : Type} {en : TypeId × Value → T} {P : Program} {w : World} {sp : Nat → Bool} {held : Bool} {S : List (TypeId × List CT)}
theorem par_in (hS : fitsB S P S = true) (p : Par) (hm : fitMem S p.t p.cts = true) {v : Value} {d : DataW T} {ps : List MemPlace} (hsh : p.sh v) (h : DataW.Trod en P w 0 sp held p.t v d ps) :
    ∃ ds, Typed p.cts ds ∧ Dat.fit.fits (ds.map fun d => enc d.c d.x) ∧ ∀ nm, KRelV (hp w) (Rdb w) (Bof fun b => b) true [] nm p.kv ds v [] := by
  obtain ⟨fuel, hf⟩ := h
  obtain ⟨ds, h1, h2⟩ := read_type hS (fuel + 1) p.t p.cts (fitMem_spec hm) fuel _ _ (Nat.lt_succ_self _) hf
  refine ⟨ds, h1, RelDs.fits h2, fun nm => ?_⟩
  have agg_case : ∀ arr, v = .agg arr → KRelV (hp w) (Rdb w) (Bof fun b => b) true [] nm (.agg (p.cts.map shK)) ds v [] := by
    rintro arr rfl
    simp only [KRelV]
    exact ⟨arr, rfl, kels_of h1 h2⟩
  obtain ⟨t, agg, cts⟩ := p
  cases agg with
  | true =>
    obtain ⟨arr, e⟩ := (show ∃ arr, v = .agg arr from hsh)
    exact agg_case arr e
  | false =>
    match cts with
    | [] => 
      obtain ⟨arr, e⟩ := (show ∃ arr, v = .agg arr from hsh)
      exact agg_case arr e
    | c :: c2 :: cs => 
      obtain ⟨arr, e⟩ := (show ∃ arr, v = .agg arr from hsh)
      exact agg_case arr e
    | [c] =>
      have hv : v.cells = #[v] := hsh
      rw [hv] at h2
      have h3 := kels_of (B := Bof fun b => b) (nm := nm) (j := 0) h1 h2
      simp only [List.map_cons, List.map_nil, KRels] at h3
      obtain ⟨v', vs', d1, d2, A1, A2, e1, e2, e3, ho, hk, rfl, rfl, rfl⟩ := h3
      obtain ⟨rfl, -⟩ := List.append_eq_nil_iff.1 e3.symm
      rw [List.append_nil] at e1
      subst e1
      obtain rfl : v = v' := by simpa using e2
      show KRelV (hp w) (Rdb w) (Bof fun b => b) true [] nm (.one (shK c)) ds v []
      simp only [KRelV]
      exact ⟨.inr ho, hk⟩
def shAll : List Par → List Value → Prop
  | [], [] => True
  | p :: l, v :: vs => p.sh v ∧ shAll l vs
  | _, _ => False
theorem pars_in (hS : fitsB S P S = true) : ∀ (l : List Par), (l.all fun p => fitMem S p.t p.cts) = true → ∀ (vs : List Value) (d : List (DataW T)) (ps : List MemPlace), shAll l vs → DataW.TrodAll en P w 0 sp held (l.map (·.t)) vs d ps →
    ∃ ds, Typed (l.flatMap (·.cts)) ds ∧ Dat.fit.fits (ds.map fun d => enc d.c d.x) ∧ ∀ (val : Nat → Value) (j : Nat), (∀ i, val (j + i) = vs.getD i undef) → KTm (hp w) (Rdb w) (Bof fun b => b) true val [] (gamOf j (l.map Par.kv)) ds []
  | [], _, [], _, _, _, _ => ⟨[], rfl, by simp [Dat.fit.fits], fun val j _ => by simp [gamOf, KTm]⟩
  | p :: l, hm, v :: vs, d :: ds', ps, hsh, h => by
    simp only [List.all_cons, Bool.and_eq_true] at hm
    obtain ⟨p1, p2, h1, h2, -⟩ := h
    obtain ⟨da, a1, a2, a3⟩ := par_in hS p hm.1 hsh.1 h1
    obtain ⟨db, b1, b2, b3⟩ := pars_in hS l hm.2 vs ds' p2 hsh.2 h2
    refine ⟨da ++ db, by rw [List.flatMap_cons]; exact Typed.app a1 b1, by rw [List.map_append]; exact fits_of_append a2 b2, fun val j hv => ?_⟩
    simp only [List.map_cons, gamOf, KTm]
    have e0 : val j = v := by
      have := hv 0
      simpa using this
    refine ⟨da, db, [], [], rfl, rfl, by rw [e0]; exact a3 _, ?_⟩
    rw [List.append_nil]
    refine b3 val (j + 1) fun i => ?_
    have := hv (i + 1)
    rw [show j + 1 + i = j + (i + 1) by omega, this]
    simp
  | _ :: _, _, [], _, _, h, _ => absurd h (by simp [shAll])
  | _ :: _, _, _ :: _, [], _, _, h => absurd h (by simp [DataW.TrodAll])
  | [], _, _ :: _, _, _, h, _ => absurd h (by simp [shAll])
theorem laws_in (hS : fitsB S P S = true) {l : List Par} (hm : (l.all fun p => fitMem S p.t p.cts) = true) {args : Array Value} {d : List (DataW T)} {ps : List MemPlace} (hsh : shAll l args.toList) (h : DataW.TrodAll en P w 0 sp held (l.map (·.t)) args.toList d ps) :
    ∃ ds, Typed (l.flatMap (·.cts)) ds ∧ Dat.fit.fits (ds.map fun d => enc d.c d.x) ∧
      ∀ (E : Entry) (gl : Glob), E.ins = l.map Par.kv → E.bx = [] → gl.n ≤ w.heap.size → (∀ b, b < gl.n → hp w b = hp gl.w b) →
        InOk gl E w (fun _ => False) (Rdb w) (fun b => b) (fun i => args.getD i undef) [] ds [] [] := by
  obtain ⟨ds, h1, h2, h3⟩ := pars_in hS l hm args.toList d ps hsh h
  refine ⟨ds, h1, h2, fun E gl hE hb hn hg => ⟨?_, ?_, ?_, ?_, fun b hb => ⟨hb, fun h => h⟩, ⟨hn, fun b hb => ⟨fun h => h, hg b hb⟩⟩⟩⟩
  · rw [hb]; simp [KBx]
  · rw [hE]
    refine h3 _ 0 fun i => ?_
    rw [Nat.zero_add]
    simp [List.getD_eq_getElem?_getD, Array.getD_eq_getD_getElem?]
  · rw [hb]; simp [Env.fps]
  · rw [hb]; simp [Env.fps]
theorem laws_true {gl : Glob} {E : Entry} {args : Array Value} {ds : List DV} {r : InterpA E.outC} (hc : Contract P gl E ds r) (hout : E.outs = .one .bool) (hbx : E.bx = []) (hr : untyp E.outC r = [⟨.bool, true⟩]) (hins : args.size = E.ins.length)
    (hin : InOk gl E w (fun _ => False) (Rdb w) (fun b => b) (fun i => args.getD i undef) [] ds [] []) :
    Calls P E.f args w fun e w' => e = .returned (.bool true) ∧ Below w.heap.size w w' := by
  refine (hc w (fun _ => False) (Rdb w) (fun b => b) args [] ds [] [] rfl hins hin).mono fun e w' h => ?_
  cases e with
  | panicked _ => exact h.elim
  | outgrown => exact h.elim
  | returned u =>
    obtain ⟨h1, h2, h3, h4, h5, d1, A1, d2, A2, e1, k1, k2, -, -⟩ := h
    refine ⟨?_, h3, h4, h5, h1, fun k hk => h2 k hk (fun h => h)⟩
    rw [hbx] at k2
    simp only [zipB, KBx] at k2
    obtain ⟨rfl, rfl⟩ := k2
    rw [hout] at k1
    simp only [KRelV, KRel] at k1
    obtain ⟨-, x, hx, hu, -⟩ := k1
    rw [hr, List.append_nil] at e1
    rw [hx] at e1
    simp only [List.cons.injEq, and_true] at e1
    have : x = true := by
      injection e1 with _ e2
      exact e2.symm
    rw [hu, this]
end
end Go.Ev
