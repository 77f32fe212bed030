/- What is right: messages, nodes, worlds. -/
import Derived.Test.YtmabfdnconccnaaGreatDoorTxtOk4
namespace Go.Proofs.YtmabfdnconccnaaGreatDoor
open Go Go.Ev
abbrev PeerT : Type := Int × (Int × (Int × (Int × (Int × (t_iiis × (t_iis × (t_isiis × (Int × (Int × (t_i × (Bytes × (Int × (t_b × (t_i × (t_i × (Int × (t_iis × (t_isiis × (Int × (Int × (t_i × (Bytes × (t_u × (Int × (t_q1)))))))))))))))))))))))))
abbrev RpcT : Type := e_q1
def RpcW (r : RpcT) (size : Int) : Prop := RpcOk r.1 r.2.1 r.2.2.1 r.2.2.2.1 r.2.2.2.2.1 r.2.2.2.2.2.1 r.2.2.2.2.2.2.1 r.2.2.2.2.2.2.2.1 r.2.2.2.2.2.2.2.2.2 size
def smRpc (r : RpcT) : Prop := smLog r.2.2.2.2.2.2.2.1
theorem sp_sl19List (l : t_iiis) (most : Int) (hl : smLog l) : Evt fun n => F_sl19List n l most = some (bo ((∀ e ∈ l, EntWd most e) ∧ l.length ≤ 40)) := by
  have k := all_loop hl.1 (p := EntWd most) (r := false) (b := l) (L := fun n m i => L_sl19List_0 n m i l most) (((Evt.all l fun e h => sp_sCmdOk e.2.1 e.2.2.1 e.2.2.2 (hl.2 e h)).and (Evt.all l fun e _ => sp_sl1In e.1 0 most)).mono fun n ⟨h, h'⟩ m i hi => by
    rw [eqL_sl19List_0, lt_dec hi, atZ_at hi]
    simp only [cond_true, Option.bind_some, h _ (List.getElem_mem hi), h' _ (List.getElem_mem hi), bo_not, bo_orr]
    exact bo_sw (by unfold EntWd; grind)) (fun n m => by rw [eqL_sl19List_0, lt_nd]; rfl)
  refine k.nm fun n e => ?_
  rw [eq_sl19List, show L_sl19List_0 n n 0 l most = _ from e]
  simp only [Option.bind_some, bo_sum]
  ((try simp only [bo_dec, bo_beq, bo_bne, bo_not, Option.bind_some, Option.bind_none, bo_bind, bo_sum, cond_true, cond_false, bo_tf, bo_ft, Bool.not_true, Bool.not_false]); (try simp only [bo_ite]); (repeat' split); all_goals first | rfl | (refine bo_congr ?_; grind) | (refine bo_some_t ?_; grind) | (refine bo_some_f ?_; grind) | (exfalso; grind))
theorem sp_ientriesOk (l : t_iiis) (most : Int) (hl : smLog l) : Evt fun n => F_ientriesOk n l most = some (bo ((∀ e ∈ l, EntWd most e) ∧ l.length ≤ 40)) := by
  have k0 : Evt fun n => ∀ e ∈ l, F_ientriesOk_1 n most e.1 e.2.1 e.2.2.1 e.2.2.2 = some (bo (¬ EntWd most e), most) := Evt.all l fun e _ => ((sp_iin e.1 0 most).and (sp_iCmdOk e.2.1 e.2.2.1 e.2.2.2)).nm fun n ⟨e1, e2⟩ => by
    rw [eq_ientriesOk_1, e1]
    simp only [Option.bind_some, e2, bo_not, bo_or, bo_orr]
    unfold EntWd
    rw [bo_congr' (show (¬ In e.1 0 most ∨ ¬ CmdOk e.2.1 e.2.2.1 e.2.2.2) ↔ ¬ (In e.1 0 most ∧ CmdOk e.2.1 e.2.2.1 e.2.2.2) by grind)]
  have h' := any_loop hl.1 (p := fun e => ¬ EntWd most e) (r := fun i => (i, most)) (b := most) (L := fun n m i => L_slices_IndexFunc_impl_Entry_impl_Entry_0 n m most i l (l.length : Int)) (k0.mono fun n h m i hi => by
      rw [eqL_slices_IndexFunc_impl_Entry_impl_Entry_0, lt_dec hi, atZ_at hi]
      simp only [cond_true, Option.bind_some, h _ (List.getElem_mem hi)]) (fun n m => by rw [eqL_slices_IndexFunc_impl_Entry_impl_Entry_0, lt_nd]; rfl)
  have k1 : Evt fun n => F_slices_ContainsFunc_impl_Entry_impl_Entry n most l = some (bo (∃ e ∈ l, ¬ EntWd most e), most) := Evt.succ (h'.nm fun n h => by
      rw [eq_slices_ContainsFunc_impl_Entry_impl_Entry, eq_slices_IndexFunc_impl_Entry_impl_Entry]
      refine any_res (l := l) (p := fun e => ¬ EntWd most e) (c := most) ?_
      rcases h with ⟨h, i, e⟩ | ⟨h, e⟩
      · exact .inl ⟨h, i, by rw [e]; rfl⟩
      · exact .inr ⟨h, by rw [e]; rfl⟩)
  refine k1.nm fun n e => ?_
  rw [eq_ientriesOk, e]
  simp only [Option.bind_some]
  ((try simp only [bo_dec, bo_beq, bo_bne, bo_not, Option.bind_some, Option.bind_none, bo_bind, bo_sum, cond_true, cond_false, bo_tf, bo_ft, Bool.not_true, Bool.not_false]); (try simp only [bo_ite]); (repeat' split); all_goals first | rfl | (refine bo_congr ?_; grind) | (refine bo_some_t ?_; grind) | (refine bo_some_f ?_; grind) | (exfalso; grind))
theorem sp_sRpcOk (r : RpcT) (size : Int) (h : smRpc r) : Evt fun n => F_sRpcOk n r.1 r.2.1 r.2.2.1 r.2.2.2.1 r.2.2.2.2.1 r.2.2.2.2.2.1 r.2.2.2.2.2.2.1 r.2.2.2.2.2.2.2.1 r.2.2.2.2.2.2.2.2.1 r.2.2.2.2.2.2.2.2.2 size = some (bo (RpcW r size)) := by
  refine (((((sp_sl1In r.1 1 5).and (sp_sl1In size 1 5)).and ((sp_sl1In r.2.1 0 (IntKind.wrap .i64 (size - 1))).and (sp_sl1In r.2.2.1 0 (IntKind.wrap .i64 (size - 1))))).and (((sp_sl1In r.2.2.2.1 0 300).and (sp_sl1In r.2.2.2.2.1 0 300)).and ((sp_sl1In r.2.2.2.2.2.1 0 300).and (sp_sl1In r.2.2.2.2.2.2.1 0 300)))).and (sp_sl19List r.2.2.2.2.2.2.2.1 r.2.2.2.1 h)).nm fun n ⟨⟨⟨⟨e1, e2⟩, e3, e4⟩, ⟨e5, e6⟩, e7, e8⟩, e9⟩ => ?_
  rw [eq_sRpcOk, e1]
  simp only [Option.bind_some, e2, e3, e4, e5, e6, e7, e8, e9]
  unfold RpcW RpcOk
  ((try simp only [bo_dec, bo_beq, bo_bne, bo_not, Option.bind_some, Option.bind_none, bo_bind, bo_sum, cond_true, cond_false, bo_tf, bo_ft, Bool.not_true, Bool.not_false]); (try simp only [bo_ite]); (repeat' split); all_goals first | rfl | (refine bo_congr ?_; grind) | (refine bo_some_t ?_; grind) | (refine bo_some_f ?_; grind) | (exfalso; grind))
theorem sp_iRpcOk (r : RpcT) (size : Int) (h : smRpc r) : Evt fun n => F_iRpcOk n r.1 r.2.1 r.2.2.1 r.2.2.2.1 r.2.2.2.2.1 r.2.2.2.2.2.1 r.2.2.2.2.2.2.1 r.2.2.2.2.2.2.2.1 r.2.2.2.2.2.2.2.2.1 r.2.2.2.2.2.2.2.2.2 size = some (bo (RpcW r size)) := by
  refine (((((sp_iin r.1 1 5).and (sp_iin size 1 5)).and ((sp_iin r.2.1 0 (IntKind.wrap .i64 (size - 1))).and (sp_iin r.2.2.1 0 (IntKind.wrap .i64 (size - 1))))).and (((sp_iisIndex r.2.2.2.1).and (sp_iisIndex r.2.2.2.2.1)).and ((sp_iisIndex r.2.2.2.2.2.1).and (sp_iisIndex r.2.2.2.2.2.2.1)))).and (sp_ientriesOk r.2.2.2.2.2.2.2.1 r.2.2.2.1 h)).nm fun n ⟨⟨⟨⟨e1, e2⟩, e3, e4⟩, ⟨e5, e6⟩, e7, e8⟩, e9⟩ => ?_
  rw [eq_iRpcOk, e1]
  simp only [Option.bind_some, e2, e3, e4, e5, e6, e7, e8, e9]
  unfold RpcW RpcOk
  ((try simp only [bo_dec, bo_beq, bo_bne, bo_not, Option.bind_some, Option.bind_none, bo_bind, bo_sum, cond_true, cond_false, bo_tf, bo_ft, Bool.not_true, Bool.not_false]); (try simp only [bo_ite]); (repeat' split); all_goals first | rfl | (refine bo_congr ?_; grind) | (refine bo_some_t ?_; grind) | (refine bo_some_f ?_; grind) | (exfalso; grind))
def DiskW (b : t_u) (sure : Int) : Prop := b.length ≤ 80000 ∧ In sure 0 b.length
theorem sp_sDiskOk (b : t_u) (s : Int) : Evt fun n => F_sDiskOk n b s = some (bo (DiskW b s)) := by
  refine (sp_sl1In s 0 b.length).nm fun n e => ?_
  rw [eq_sDiskOk, e]
  unfold DiskW
  ((try simp only [bo_dec, bo_beq, bo_bne, bo_not, Option.bind_some, Option.bind_none, bo_bind, bo_sum, cond_true, cond_false, bo_tf, bo_ft, Bool.not_true, Bool.not_false]); (try simp only [bo_ite]); (repeat' split); all_goals first | rfl | (refine bo_congr ?_; grind) | (refine bo_some_t ?_; grind) | (refine bo_some_f ?_; grind) | (exfalso; grind))
theorem sp_iDiskOk (b : t_u) (s : Int) : Evt fun n => F_iDiskOk n b s = some (bo (DiskW b s)) := by
  refine (sp_iin s 0 b.length).nm fun n e => ?_
  rw [eq_iDiskOk, e]
  unfold DiskW
  ((try simp only [bo_dec, bo_beq, bo_bne, bo_not, Option.bind_some, Option.bind_none, bo_bind, bo_sum, cond_true, cond_false, bo_tf, bo_ft, Bool.not_true, Bool.not_false]); (try simp only [bo_ite]); (repeat' split); all_goals first | rfl | (refine bo_congr ?_; grind) | (refine bo_some_t ?_; grind) | (refine bo_some_f ?_; grind) | (exfalso; grind))
theorem sp_inumbersOk (l : t_i) (many lo hi : Int) (hl : l.length ≤ 1048576) : Evt fun n => F_inumbersOk n l many lo hi = some (bo ((l.length : Int) = many ∧ ∀ x ∈ l, In x lo hi)) := by
  have k0 : Evt fun n => ∀ e ∈ l, F_inumbersOk_1 n lo hi e = some (bo (¬ In e lo hi), (lo, hi)) := Evt.all l fun e _ => (sp_iin e lo hi).nm fun n e1 => by
    rw [eq_inumbersOk_1, e1]
    simp only [Option.bind_some, bo_not]
  have h' := any_loop hl (p := fun e => ¬ In e lo hi) (r := fun i => (i, (lo, hi))) (b := (lo, hi)) (L := fun n m i => L_slices_IndexFunc_int_int_2_0 n m lo hi i l (l.length : Int)) (k0.mono fun n h m i hi => by
      rw [eqL_slices_IndexFunc_int_int_2_0, lt_dec hi, atZ_at hi]
      simp only [cond_true, Option.bind_some, h _ (List.getElem_mem hi)]) (fun n m => by rw [eqL_slices_IndexFunc_int_int_2_0, lt_nd]; rfl)
  have k1 : Evt fun n => F_slices_ContainsFunc_int_int_2 n lo hi l = some (bo (∃ e ∈ l, ¬ In e lo hi), (lo, hi)) := Evt.succ (h'.nm fun n h => by
      rw [eq_slices_ContainsFunc_int_int_2, eq_slices_IndexFunc_int_int_2]
      refine any_res (l := l) (p := fun e => ¬ In e lo hi) (c := (lo, hi)) ?_
      rcases h with ⟨h, i, e⟩ | ⟨h, e⟩
      · exact .inl ⟨h, i, by rw [e]; rfl⟩
      · exact .inr ⟨h, by rw [e]; rfl⟩)
  refine k1.nm fun n e => ?_
  rw [eq_inumbersOk, e]
  simp only [Option.bind_some]
  ((try simp only [bo_dec, bo_beq, bo_bne, bo_not, Option.bind_some, Option.bind_none, bo_bind, bo_sum, cond_true, cond_false, bo_tf, bo_ft, Bool.not_true, Bool.not_false]); (try simp only [bo_ite]); (repeat' split); all_goals first | rfl | (refine bo_congr ?_; grind) | (refine bo_some_t ?_; grind) | (refine bo_some_f ?_; grind) | (exfalso; grind))
def HardW (a b : t_s) (c d : t_iis) (p : PeerT) : Prop := HardOk a b c d p.2.1 p.2.2.1 p.2.2.2.1 p.2.2.2.2.1 p.2.2.2.2.2.1 p.2.2.2.2.2.2.1 p.2.2.2.2.2.2.2.1 p.2.2.2.2.2.2.2.2.1 p.2.2.2.2.2.2.2.2.2.1 p.2.2.2.2.2.2.2.2.2.2.1 p.2.2.2.2.2.2.2.2.2.2.2.1
def MachW (a b : t_s) (c d : t_iis) (p : PeerT) : Prop := MachOk a b c d p.2.2.2.2.2.2.2.2.2.2.2.2.2.2.2.2.2.1 p.2.2.2.2.2.2.2.2.2.2.2.2.2.2.2.2.2.2.1 p.2.2.2.2.2.2.2.2.2.2.2.2.2.2.2.2.2.2.2.1 p.2.2.2.2.2.2.2.2.2.2.2.2.2.2.2.2.2.2.2.2.1 p.2.2.2.2.2.2.2.2.2.2.2.2.2.2.2.2.2.2.2.2.2.1 p.2.2.2.2.2.2.2.2.2.2.2.2.2.2.2.2.2.2.2.2.2.2.1
def lastW (p : PeerT) : Int := (lastF p.2.2.2.1 p.2.2.2.2.1 p.2.2.2.2.2.1).1
def PeerW (a b : t_s) (c d : t_iis) (p : PeerT) (size : Int) : Prop :=
  In size 1 5 ∧ In p.1 0 (IntKind.wrap .i64 (size - 1)) ∧ HardW a b c d p ∧ p.2.2.1 < size ∧ In p.2.2.2.2.2.2.2.2.2.2.2.2.1 0 2 ∧ (p.2.2.2.2.2.2.2.2.2.2.2.2.2.1.length : Int) = size ∧ (p.2.2.2.2.2.2.2.2.2.2.2.2.2.2.1.length : Int) = size ∧ (p.2.2.2.2.2.2.2.2.2.2.2.2.2.2.2.1.length : Int) = size ∧
  (∀ x ∈ p.2.2.2.2.2.2.2.2.2.2.2.2.2.2.1, In x 1 (IntKind.wrap .i64 (lastW p + 1))) ∧ (∀ x ∈ p.2.2.2.2.2.2.2.2.2.2.2.2.2.2.2.1, In x 0 (lastW p)) ∧ (∀ r ∈ p.2.2.2.2.2.2.2.2.2.2.2.2.2.2.2.2.2.2.2.2.2.2.2.2.2, RpcW r size ∧ r.2.1 = p.1) ∧ In p.2.2.2.2.2.2.2.2.2.2.2.2.2.2.2.2.1 p.2.2.2.1 (lastW p) ∧ MachW a b c d p ∧ DiskW p.2.2.2.2.2.2.2.2.2.2.2.2.2.2.2.2.2.2.2.2.2.2.2.1 p.2.2.2.2.2.2.2.2.2.2.2.2.2.2.2.2.2.2.2.2.2.2.2.2.1 ∧ p.2.2.2.2.2.2.2.2.2.2.2.2.2.2.2.2.2.2.2.2.2.2.2.2.2.length ≤ 40
def smPeer (p : PeerT) : Prop := smLog p.2.2.2.2.2.1 ∧ p.2.2.2.2.2.2.1.length ≤ 1048576 ∧ p.2.2.2.2.2.2.2.1.length ≤ 1048576 ∧ p.2.2.2.2.2.2.2.2.2.2.1.length ≤ 1048576 ∧ p.2.2.2.2.2.2.2.2.2.2.2.2.2.2.1.length ≤ 1048576 ∧ p.2.2.2.2.2.2.2.2.2.2.2.2.2.2.2.1.length ≤ 1048576 ∧ p.2.2.2.2.2.2.2.2.2.2.2.2.2.2.2.2.2.1.length ≤ 1048576 ∧ p.2.2.2.2.2.2.2.2.2.2.2.2.2.2.2.2.2.2.1.length ≤ 1048576 ∧ p.2.2.2.2.2.2.2.2.2.2.2.2.2.2.2.2.2.2.2.2.2.1.length ≤ 1048576 ∧ p.2.2.2.2.2.2.2.2.2.2.2.2.2.2.2.2.2.2.2.2.2.2.2.2.2.length ≤ 1048576 ∧ ∀ r ∈ p.2.2.2.2.2.2.2.2.2.2.2.2.2.2.2.2.2.2.2.2.2.2.2.2.2, smRpc r
theorem sp_iPeerOk (a b : t_s) (c d : t_iis) (p : PeerT) (size : Int) (h : smProg a b c d) (hp : smPeer p) : Evt fun n => F_iPeerOk n a b c d p.1 p.2.1 p.2.2.1 p.2.2.2.1 p.2.2.2.2.1 p.2.2.2.2.2.1 p.2.2.2.2.2.2.1 p.2.2.2.2.2.2.2.1 p.2.2.2.2.2.2.2.2.1 p.2.2.2.2.2.2.2.2.2.1 p.2.2.2.2.2.2.2.2.2.2.1 p.2.2.2.2.2.2.2.2.2.2.2.1 p.2.2.2.2.2.2.2.2.2.2.2.2.1 p.2.2.2.2.2.2.2.2.2.2.2.2.2.1 p.2.2.2.2.2.2.2.2.2.2.2.2.2.2.1 p.2.2.2.2.2.2.2.2.2.2.2.2.2.2.2.1 p.2.2.2.2.2.2.2.2.2.2.2.2.2.2.2.2.1 p.2.2.2.2.2.2.2.2.2.2.2.2.2.2.2.2.2.1 p.2.2.2.2.2.2.2.2.2.2.2.2.2.2.2.2.2.2.1 p.2.2.2.2.2.2.2.2.2.2.2.2.2.2.2.2.2.2.2.1 p.2.2.2.2.2.2.2.2.2.2.2.2.2.2.2.2.2.2.2.2.1 p.2.2.2.2.2.2.2.2.2.2.2.2.2.2.2.2.2.2.2.2.2.1 p.2.2.2.2.2.2.2.2.2.2.2.2.2.2.2.2.2.2.2.2.2.2.1 p.2.2.2.2.2.2.2.2.2.2.2.2.2.2.2.2.2.2.2.2.2.2.2.1 p.2.2.2.2.2.2.2.2.2.2.2.2.2.2.2.2.2.2.2.2.2.2.2.2.1 p.2.2.2.2.2.2.2.2.2.2.2.2.2.2.2.2.2.2.2.2.2.2.2.2.2 size = some (bo (PeerW a b c d p size)) := by
  obtain ⟨hl, h6, h7, h10, h14, h15, h17, h18, h21, h25, hr⟩ := hp
  have k0 : Evt fun n => ∀ r ∈ p.2.2.2.2.2.2.2.2.2.2.2.2.2.2.2.2.2.2.2.2.2.2.2.2.2, F_iPeerOk_1 n size p.1 p.2.1 p.2.2.1 p.2.2.2.1 p.2.2.2.2.1 p.2.2.2.2.2.1 p.2.2.2.2.2.2.1 p.2.2.2.2.2.2.2.1 p.2.2.2.2.2.2.2.2.1 p.2.2.2.2.2.2.2.2.2.1 p.2.2.2.2.2.2.2.2.2.2.1 p.2.2.2.2.2.2.2.2.2.2.2.1 p.2.2.2.2.2.2.2.2.2.2.2.2.1 p.2.2.2.2.2.2.2.2.2.2.2.2.2.1 p.2.2.2.2.2.2.2.2.2.2.2.2.2.2.1 p.2.2.2.2.2.2.2.2.2.2.2.2.2.2.2.1 p.2.2.2.2.2.2.2.2.2.2.2.2.2.2.2.2.1 p.2.2.2.2.2.2.2.2.2.2.2.2.2.2.2.2.2.1 p.2.2.2.2.2.2.2.2.2.2.2.2.2.2.2.2.2.2.1 p.2.2.2.2.2.2.2.2.2.2.2.2.2.2.2.2.2.2.2.1 p.2.2.2.2.2.2.2.2.2.2.2.2.2.2.2.2.2.2.2.2.1 p.2.2.2.2.2.2.2.2.2.2.2.2.2.2.2.2.2.2.2.2.2.1 p.2.2.2.2.2.2.2.2.2.2.2.2.2.2.2.2.2.2.2.2.2.2.1 p.2.2.2.2.2.2.2.2.2.2.2.2.2.2.2.2.2.2.2.2.2.2.2.1 p.2.2.2.2.2.2.2.2.2.2.2.2.2.2.2.2.2.2.2.2.2.2.2.2.1 p.2.2.2.2.2.2.2.2.2.2.2.2.2.2.2.2.2.2.2.2.2.2.2.2.2 r.1 r.2.1 r.2.2.1 r.2.2.2.1 r.2.2.2.2.1 r.2.2.2.2.2.1 r.2.2.2.2.2.2.1 r.2.2.2.2.2.2.2.1 r.2.2.2.2.2.2.2.2.1 r.2.2.2.2.2.2.2.2.2 = some (bo (¬ (RpcW r size ∧ r.2.1 = p.1)), (size, p)) := Evt.all _ fun r hm => (sp_iRpcOk r size (hr r hm)).nm fun n e1 => by
    rw [eq_iPeerOk_1, e1]
    simp only [Option.bind_some, bo_not, bo_bne, bo_or]
    rw [bo_congr' (show (¬ RpcW r size ∨ ¬ r.2.1 = p.1) ↔ ¬ (RpcW r size ∧ r.2.1 = p.1) by grind)]
  have h' := any_loop h25 (p := fun r => ¬ (RpcW r size ∧ r.2.1 = p.1)) (r := fun i => (i, (size, p))) (b := (size, p)) (L := fun n m i => L_slices_IndexFunc_impl_Rpc_impl_Rpc_0 n m size p.1 p.2.1 p.2.2.1 p.2.2.2.1 p.2.2.2.2.1 p.2.2.2.2.2.1 p.2.2.2.2.2.2.1 p.2.2.2.2.2.2.2.1 p.2.2.2.2.2.2.2.2.1 p.2.2.2.2.2.2.2.2.2.1 p.2.2.2.2.2.2.2.2.2.2.1 p.2.2.2.2.2.2.2.2.2.2.2.1 p.2.2.2.2.2.2.2.2.2.2.2.2.1 p.2.2.2.2.2.2.2.2.2.2.2.2.2.1 p.2.2.2.2.2.2.2.2.2.2.2.2.2.2.1 p.2.2.2.2.2.2.2.2.2.2.2.2.2.2.2.1 p.2.2.2.2.2.2.2.2.2.2.2.2.2.2.2.2.1 p.2.2.2.2.2.2.2.2.2.2.2.2.2.2.2.2.2.1 p.2.2.2.2.2.2.2.2.2.2.2.2.2.2.2.2.2.2.1 p.2.2.2.2.2.2.2.2.2.2.2.2.2.2.2.2.2.2.2.1 p.2.2.2.2.2.2.2.2.2.2.2.2.2.2.2.2.2.2.2.2.1 p.2.2.2.2.2.2.2.2.2.2.2.2.2.2.2.2.2.2.2.2.2.1 p.2.2.2.2.2.2.2.2.2.2.2.2.2.2.2.2.2.2.2.2.2.2.1 p.2.2.2.2.2.2.2.2.2.2.2.2.2.2.2.2.2.2.2.2.2.2.2.1 p.2.2.2.2.2.2.2.2.2.2.2.2.2.2.2.2.2.2.2.2.2.2.2.2.1 p.2.2.2.2.2.2.2.2.2.2.2.2.2.2.2.2.2.2.2.2.2.2.2.2.2 i p.2.2.2.2.2.2.2.2.2.2.2.2.2.2.2.2.2.2.2.2.2.2.2.2.2 (p.2.2.2.2.2.2.2.2.2.2.2.2.2.2.2.2.2.2.2.2.2.2.2.2.2.length : Int)) (k0.mono fun n h m i hi => by
      rw [eqL_slices_IndexFunc_impl_Rpc_impl_Rpc_0, lt_dec hi, atZ_at hi]
      simp only [cond_true, Option.bind_some, h _ (List.getElem_mem hi)]) (fun n m => by rw [eqL_slices_IndexFunc_impl_Rpc_impl_Rpc_0, lt_nd]; rfl)
  have k1 : Evt fun n => F_slices_ContainsFunc_impl_Rpc_impl_Rpc n size p.1 p.2.1 p.2.2.1 p.2.2.2.1 p.2.2.2.2.1 p.2.2.2.2.2.1 p.2.2.2.2.2.2.1 p.2.2.2.2.2.2.2.1 p.2.2.2.2.2.2.2.2.1 p.2.2.2.2.2.2.2.2.2.1 p.2.2.2.2.2.2.2.2.2.2.1 p.2.2.2.2.2.2.2.2.2.2.2.1 p.2.2.2.2.2.2.2.2.2.2.2.2.1 p.2.2.2.2.2.2.2.2.2.2.2.2.2.1 p.2.2.2.2.2.2.2.2.2.2.2.2.2.2.1 p.2.2.2.2.2.2.2.2.2.2.2.2.2.2.2.1 p.2.2.2.2.2.2.2.2.2.2.2.2.2.2.2.2.1 p.2.2.2.2.2.2.2.2.2.2.2.2.2.2.2.2.2.1 p.2.2.2.2.2.2.2.2.2.2.2.2.2.2.2.2.2.2.1 p.2.2.2.2.2.2.2.2.2.2.2.2.2.2.2.2.2.2.2.1 p.2.2.2.2.2.2.2.2.2.2.2.2.2.2.2.2.2.2.2.2.1 p.2.2.2.2.2.2.2.2.2.2.2.2.2.2.2.2.2.2.2.2.2.1 p.2.2.2.2.2.2.2.2.2.2.2.2.2.2.2.2.2.2.2.2.2.2.1 p.2.2.2.2.2.2.2.2.2.2.2.2.2.2.2.2.2.2.2.2.2.2.2.1 p.2.2.2.2.2.2.2.2.2.2.2.2.2.2.2.2.2.2.2.2.2.2.2.2.1 p.2.2.2.2.2.2.2.2.2.2.2.2.2.2.2.2.2.2.2.2.2.2.2.2.2 p.2.2.2.2.2.2.2.2.2.2.2.2.2.2.2.2.2.2.2.2.2.2.2.2.2 = some (bo (∃ r ∈ p.2.2.2.2.2.2.2.2.2.2.2.2.2.2.2.2.2.2.2.2.2.2.2.2.2, ¬ (RpcW r size ∧ r.2.1 = p.1)), (size, p)) := Evt.succ (h'.nm fun n h => by
      rw [eq_slices_ContainsFunc_impl_Rpc_impl_Rpc, eq_slices_IndexFunc_impl_Rpc_impl_Rpc]
      refine any_res (l := p.2.2.2.2.2.2.2.2.2.2.2.2.2.2.2.2.2.2.2.2.2.2.2.2.2) (p := fun r => ¬ (RpcW r size ∧ r.2.1 = p.1)) (c := (size, p)) ?_
      rcases h with ⟨h, i, e⟩ | ⟨h, e⟩
      · exact .inl ⟨h, i, by rw [e]; rfl⟩
      · exact .inr ⟨h, by rw [e]; rfl⟩)
  have k2 := sp_iHardOk a b c d p.2.1 p.2.2.1 p.2.2.2.1 p.2.2.2.2.1 p.2.2.2.2.2.1 p.2.2.2.2.2.2.1 p.2.2.2.2.2.2.2.1 p.2.2.2.2.2.2.2.2.1 p.2.2.2.2.2.2.2.2.2.1 p.2.2.2.2.2.2.2.2.2.2.1 p.2.2.2.2.2.2.2.2.2.2.2.1 h hl h6 h7 h10
  have k3 := sp_iMachOk a b c d p.2.2.2.2.2.2.2.2.2.2.2.2.2.2.2.2.2.1 p.2.2.2.2.2.2.2.2.2.2.2.2.2.2.2.2.2.2.1 p.2.2.2.2.2.2.2.2.2.2.2.2.2.2.2.2.2.2.2.1 p.2.2.2.2.2.2.2.2.2.2.2.2.2.2.2.2.2.2.2.2.1 p.2.2.2.2.2.2.2.2.2.2.2.2.2.2.2.2.2.2.2.2.2.1 p.2.2.2.2.2.2.2.2.2.2.2.2.2.2.2.2.2.2.2.2.2.2.1 h h17 h18 h21
  have k4 := sp_iLastOf p.2.2.2.1 p.2.2.2.2.1 p.2.2.2.2.2.1 hl.1
  have k5 := sp_inumbersOk p.2.2.2.2.2.2.2.2.2.2.2.2.2.2.1 size 1 (IntKind.wrap .i64 (lastW p + 1)) h14
  have k6 := sp_inumbersOk p.2.2.2.2.2.2.2.2.2.2.2.2.2.2.2.1 size 0 (lastW p) h15
  have k7 := sp_iDiskOk p.2.2.2.2.2.2.2.2.2.2.2.2.2.2.2.2.2.2.2.2.2.2.2.1 p.2.2.2.2.2.2.2.2.2.2.2.2.2.2.2.2.2.2.2.2.2.2.2.2.1
  refine (((k1.and (k2.and k3)).and ((k4.and k5).and (k6.and k7))).and (((sp_iin size 1 5).and (sp_iin p.1 0 (IntKind.wrap .i64 (size - 1)))).and ((sp_iin p.2.2.2.2.2.2.2.2.2.2.2.2.1 0 2).and (sp_iin p.2.2.2.2.2.2.2.2.2.2.2.2.2.2.2.2.1 p.2.2.2.1 (lastW p))))).nm fun n ⟨⟨⟨e1, e2, e3⟩, ⟨e4, e5⟩, e6, e7⟩, ⟨e8, e9⟩, e10, e11⟩ => ?_
  rw [eq_iPeerOk, e8, e4]
  simp only [Option.bind_some, show (lastF p.2.2.2.1 p.2.2.2.2.1 p.2.2.2.2.2.1).1 = lastW p from rfl, e1, e2, e3, e5, e6, e7, e9, e10, e11]
  clear e1 e2 e3 e4 e5 e6 e7 e8 e9 e10 e11 k0 k1 k2 k3 k4 k5 k6 k7 h' hr hl h6 h7 h10 h14 h15 h17 h18 h21 h25 h
  simp only [bo_dec, bo_bne, bo_not, bo_or, bo_nand, Option.bind_some]
  refine bo_congr ?_
  unfold PeerW HardW MachW
  grind
theorem sp_sPeerOk (a b : t_s) (c d : t_iis) (p : PeerT) (size : Int) (h : smProg a b c d) (hp : smPeer p) : Evt fun n => F_sPeerOk n a b c d p.1 p.2.1 p.2.2.1 p.2.2.2.1 p.2.2.2.2.1 p.2.2.2.2.2.1 p.2.2.2.2.2.2.1 p.2.2.2.2.2.2.2.1 p.2.2.2.2.2.2.2.2.1 p.2.2.2.2.2.2.2.2.2.1 p.2.2.2.2.2.2.2.2.2.2.1 p.2.2.2.2.2.2.2.2.2.2.2.1 p.2.2.2.2.2.2.2.2.2.2.2.2.1 p.2.2.2.2.2.2.2.2.2.2.2.2.2.1 p.2.2.2.2.2.2.2.2.2.2.2.2.2.2.1 p.2.2.2.2.2.2.2.2.2.2.2.2.2.2.2.1 p.2.2.2.2.2.2.2.2.2.2.2.2.2.2.2.2.1 p.2.2.2.2.2.2.2.2.2.2.2.2.2.2.2.2.2.1 p.2.2.2.2.2.2.2.2.2.2.2.2.2.2.2.2.2.2.1 p.2.2.2.2.2.2.2.2.2.2.2.2.2.2.2.2.2.2.2.1 p.2.2.2.2.2.2.2.2.2.2.2.2.2.2.2.2.2.2.2.2.1 p.2.2.2.2.2.2.2.2.2.2.2.2.2.2.2.2.2.2.2.2.2.1 p.2.2.2.2.2.2.2.2.2.2.2.2.2.2.2.2.2.2.2.2.2.2.1 p.2.2.2.2.2.2.2.2.2.2.2.2.2.2.2.2.2.2.2.2.2.2.2.1 p.2.2.2.2.2.2.2.2.2.2.2.2.2.2.2.2.2.2.2.2.2.2.2.2.1 p.2.2.2.2.2.2.2.2.2.2.2.2.2.2.2.2.2.2.2.2.2.2.2.2.2 size = some (bo (PeerW a b c d p size)) := by
  obtain ⟨hl, h6, h7, h10, h14, h15, h17, h18, h21, h25, hr⟩ := hp
  have k2 := sp_sHardOk a b c d p.2.1 p.2.2.1 p.2.2.2.1 p.2.2.2.2.1 p.2.2.2.2.2.1 p.2.2.2.2.2.2.1 p.2.2.2.2.2.2.2.1 p.2.2.2.2.2.2.2.2.1 p.2.2.2.2.2.2.2.2.2.1 p.2.2.2.2.2.2.2.2.2.2.1 p.2.2.2.2.2.2.2.2.2.2.2.1 h hl h6 h7 h10
  have k3 := sp_sMachOk a b c d p.2.2.2.2.2.2.2.2.2.2.2.2.2.2.2.2.2.1 p.2.2.2.2.2.2.2.2.2.2.2.2.2.2.2.2.2.2.1 p.2.2.2.2.2.2.2.2.2.2.2.2.2.2.2.2.2.2.2.1 p.2.2.2.2.2.2.2.2.2.2.2.2.2.2.2.2.2.2.2.2.1 p.2.2.2.2.2.2.2.2.2.2.2.2.2.2.2.2.2.2.2.2.2.1 p.2.2.2.2.2.2.2.2.2.2.2.2.2.2.2.2.2.2.2.2.2.2.1 h h17 h18 h21
  have k4 := sp_sLastOf p.2.2.2.1 p.2.2.2.2.1 p.2.2.2.2.2.1 hl.1
  have k7 := sp_sDiskOk p.2.2.2.2.2.2.2.2.2.2.2.2.2.2.2.2.2.2.2.2.2.2.2.1 p.2.2.2.2.2.2.2.2.2.2.2.2.2.2.2.2.2.2.2.2.2.2.2.2.1
  have k8 := (((k2.and k3).and (k4.and k7)).and (((sp_sl1In size 1 5).and (sp_sl1In p.1 0 (IntKind.wrap .i64 (size - 1)))).and ((sp_sl1In p.2.2.2.2.2.2.2.2.2.2.2.2.1 0 2).and (sp_sl1In p.2.2.2.2.2.2.2.2.2.2.2.2.2.2.2.2.1 p.2.2.2.1 (lastW p)))))
  by_cases hg : (p.2.2.2.2.2.2.2.2.2.2.2.2.2.2.1.length : Int) = size ∧ (p.2.2.2.2.2.2.2.2.2.2.2.2.2.2.2.1.length : Int) = size
  · obtain ⟨g1, g2⟩ := hg
    have q1 := rng_loop h14 (q := fun i => At p.2.2.2.2.2.2.2.2.2.2.2.2.2.2.1 (fun x => In x 1 (IntKind.wrap .i64 (lastW p + 1))) i ∧ At p.2.2.2.2.2.2.2.2.2.2.2.2.2.2.2.1 (fun x => In x 0 (lastW p)) i) (r := false) (b := (p.1, (p.2.1, (p.2.2.1, (p.2.2.2.1, (p.2.2.2.2.1, (p.2.2.2.2.2.1, (p.2.2.2.2.2.2.1, (p.2.2.2.2.2.2.2.1, (p.2.2.2.2.2.2.2.2.1, (p.2.2.2.2.2.2.2.2.2.1, (p.2.2.2.2.2.2.2.2.2.2.1, (p.2.2.2.2.2.2.2.2.2.2.2.1, (p.2.2.2.2.2.2.2.2.2.2.2.2.1, (p.2.2.2.2.2.2.2.2.2.2.2.2.2.1, (p.2.2.2.2.2.2.2.2.2.2.2.2.2.2.1, (p.2.2.2.2.2.2.2.2.2.2.2.2.2.2.2.1, (p.2.2.2.2.2.2.2.2.2.2.2.2.2.2.2.2.1, (p.2.2.2.2.2.2.2.2.2.2.2.2.2.2.2.2.2.1, (p.2.2.2.2.2.2.2.2.2.2.2.2.2.2.2.2.2.2.1, (p.2.2.2.2.2.2.2.2.2.2.2.2.2.2.2.2.2.2.2.1, (p.2.2.2.2.2.2.2.2.2.2.2.2.2.2.2.2.2.2.2.2.1, (p.2.2.2.2.2.2.2.2.2.2.2.2.2.2.2.2.2.2.2.2.2.1, (p.2.2.2.2.2.2.2.2.2.2.2.2.2.2.2.2.2.2.2.2.2.2.1, (p.2.2.2.2.2.2.2.2.2.2.2.2.2.2.2.2.2.2.2.2.2.2.2.1, (p.2.2.2.2.2.2.2.2.2.2.2.2.2.2.2.2.2.2.2.2.2.2.2.2.1, (p.2.2.2.2.2.2.2.2.2.2.2.2.2.2.2.2.2.2.2.2.2.2.2.2.2, (a, (b, (c, (d, (size, lastW p)))))))))))))))))))))))))))))))) (L := fun n m i => L_sPeerOk_0 n m p.1 p.2.1 p.2.2.1 p.2.2.2.1 p.2.2.2.2.1 p.2.2.2.2.2.1 p.2.2.2.2.2.2.1 p.2.2.2.2.2.2.2.1 p.2.2.2.2.2.2.2.2.1 p.2.2.2.2.2.2.2.2.2.1 p.2.2.2.2.2.2.2.2.2.2.1 p.2.2.2.2.2.2.2.2.2.2.2.1 p.2.2.2.2.2.2.2.2.2.2.2.2.1 p.2.2.2.2.2.2.2.2.2.2.2.2.2.1 p.2.2.2.2.2.2.2.2.2.2.2.2.2.2.1 p.2.2.2.2.2.2.2.2.2.2.2.2.2.2.2.1 p.2.2.2.2.2.2.2.2.2.2.2.2.2.2.2.2.1 p.2.2.2.2.2.2.2.2.2.2.2.2.2.2.2.2.2.1 p.2.2.2.2.2.2.2.2.2.2.2.2.2.2.2.2.2.2.1 p.2.2.2.2.2.2.2.2.2.2.2.2.2.2.2.2.2.2.2.1 p.2.2.2.2.2.2.2.2.2.2.2.2.2.2.2.2.2.2.2.2.1 p.2.2.2.2.2.2.2.2.2.2.2.2.2.2.2.2.2.2.2.2.2.1 p.2.2.2.2.2.2.2.2.2.2.2.2.2.2.2.2.2.2.2.2.2.2.1 p.2.2.2.2.2.2.2.2.2.2.2.2.2.2.2.2.2.2.2.2.2.2.2.1 p.2.2.2.2.2.2.2.2.2.2.2.2.2.2.2.2.2.2.2.2.2.2.2.2.1 p.2.2.2.2.2.2.2.2.2.2.2.2.2.2.2.2.2.2.2.2.2.2.2.2.2 a b c d i (lastW p) size) (((Evt.all p.2.2.2.2.2.2.2.2.2.2.2.2.2.2.1 fun x _ => sp_sl1In x 1 (IntKind.wrap .i64 (lastW p + 1))).and (Evt.all p.2.2.2.2.2.2.2.2.2.2.2.2.2.2.2.1 fun x _ => sp_sl1In x 0 (lastW p))).mono fun n ⟨h, h'⟩ m i hi => by
      have hi' : i < p.2.2.2.2.2.2.2.2.2.2.2.2.2.2.2.1.length := by omega
      rw [eqL_sPeerOk_0, decide_eq_true (by omega), atZ_at hi, atZ_at hi']
      simp only [cond_true, Option.bind_some, h _ (List.getElem_mem hi), h' _ (List.getElem_mem hi'), bo_not, bo_orr, At_at hi, At_at hi']
      exact bo_sw (by grind)) (fun n m => by rw [eqL_sPeerOk_0, decide_eq_false (by omega)]; rfl)
    have q2 := all_loop h25 (p := fun r => RpcW r size ∧ r.2.1 = p.1) (r := false) (b := (p.1, (p.2.1, (p.2.2.1, (p.2.2.2.1, (p.2.2.2.2.1, (p.2.2.2.2.2.1, (p.2.2.2.2.2.2.1, (p.2.2.2.2.2.2.2.1, (p.2.2.2.2.2.2.2.2.1, (p.2.2.2.2.2.2.2.2.2.1, (p.2.2.2.2.2.2.2.2.2.2.1, (p.2.2.2.2.2.2.2.2.2.2.2.1, (p.2.2.2.2.2.2.2.2.2.2.2.2.1, (p.2.2.2.2.2.2.2.2.2.2.2.2.2.1, (p.2.2.2.2.2.2.2.2.2.2.2.2.2.2.1, (p.2.2.2.2.2.2.2.2.2.2.2.2.2.2.2.1, (p.2.2.2.2.2.2.2.2.2.2.2.2.2.2.2.2.1, (p.2.2.2.2.2.2.2.2.2.2.2.2.2.2.2.2.2.1, (p.2.2.2.2.2.2.2.2.2.2.2.2.2.2.2.2.2.2.1, (p.2.2.2.2.2.2.2.2.2.2.2.2.2.2.2.2.2.2.2.1, (p.2.2.2.2.2.2.2.2.2.2.2.2.2.2.2.2.2.2.2.2.1, (p.2.2.2.2.2.2.2.2.2.2.2.2.2.2.2.2.2.2.2.2.2.1, (p.2.2.2.2.2.2.2.2.2.2.2.2.2.2.2.2.2.2.2.2.2.2.1, (p.2.2.2.2.2.2.2.2.2.2.2.2.2.2.2.2.2.2.2.2.2.2.2.1, (p.2.2.2.2.2.2.2.2.2.2.2.2.2.2.2.2.2.2.2.2.2.2.2.2.1, (p.2.2.2.2.2.2.2.2.2.2.2.2.2.2.2.2.2.2.2.2.2.2.2.2.2, (a, (b, (c, (d, lastW p))))))))))))))))))))))))))))))) (L := fun n m i => L_sPeerOk_2 n m p.1 p.2.1 p.2.2.1 p.2.2.2.1 p.2.2.2.2.1 p.2.2.2.2.2.1 p.2.2.2.2.2.2.1 p.2.2.2.2.2.2.2.1 p.2.2.2.2.2.2.2.2.1 p.2.2.2.2.2.2.2.2.2.1 p.2.2.2.2.2.2.2.2.2.2.1 p.2.2.2.2.2.2.2.2.2.2.2.1 p.2.2.2.2.2.2.2.2.2.2.2.2.1 p.2.2.2.2.2.2.2.2.2.2.2.2.2.1 p.2.2.2.2.2.2.2.2.2.2.2.2.2.2.1 p.2.2.2.2.2.2.2.2.2.2.2.2.2.2.2.1 p.2.2.2.2.2.2.2.2.2.2.2.2.2.2.2.2.1 p.2.2.2.2.2.2.2.2.2.2.2.2.2.2.2.2.2.1 p.2.2.2.2.2.2.2.2.2.2.2.2.2.2.2.2.2.2.1 p.2.2.2.2.2.2.2.2.2.2.2.2.2.2.2.2.2.2.2.1 p.2.2.2.2.2.2.2.2.2.2.2.2.2.2.2.2.2.2.2.2.1 p.2.2.2.2.2.2.2.2.2.2.2.2.2.2.2.2.2.2.2.2.2.1 p.2.2.2.2.2.2.2.2.2.2.2.2.2.2.2.2.2.2.2.2.2.2.1 p.2.2.2.2.2.2.2.2.2.2.2.2.2.2.2.2.2.2.2.2.2.2.2.1 p.2.2.2.2.2.2.2.2.2.2.2.2.2.2.2.2.2.2.2.2.2.2.2.2.1 p.2.2.2.2.2.2.2.2.2.2.2.2.2.2.2.2.2.2.2.2.2.2.2.2.2 a b c d i size (lastW p)) ((Evt.all p.2.2.2.2.2.2.2.2.2.2.2.2.2.2.2.2.2.2.2.2.2.2.2.2.2 fun r hm => sp_sRpcOk r size (hr r hm)).mono fun n h m i hi => by
      rw [eqL_sPeerOk_2, lt_dec hi, atZ_at hi]
      simp only [cond_true, Option.bind_some, h _ (List.getElem_mem hi), bo_not, bo_bne, bo_orr]
      exact bo_sw (by grind)) (fun n m => by rw [eqL_sPeerOk_2, lt_nd]; rfl)
    refine (k8.and (q1.and q2)).nm fun n ⟨⟨⟨⟨e2, e3⟩, e4, e7⟩, ⟨e8, e9⟩, e10, e11⟩, e5, e6⟩ => ?_
    rw [eq_sPeerOk, e8, e4]
    simp only [Option.bind_some, show (lastF p.2.2.2.1 p.2.2.2.2.1 p.2.2.2.2.2.1).1 = lastW p from rfl, show L_sPeerOk_0 n n p.1 p.2.1 p.2.2.1 p.2.2.2.1 p.2.2.2.2.1 p.2.2.2.2.2.1 p.2.2.2.2.2.2.1 p.2.2.2.2.2.2.2.1 p.2.2.2.2.2.2.2.2.1 p.2.2.2.2.2.2.2.2.2.1 p.2.2.2.2.2.2.2.2.2.2.1 p.2.2.2.2.2.2.2.2.2.2.2.1 p.2.2.2.2.2.2.2.2.2.2.2.2.1 p.2.2.2.2.2.2.2.2.2.2.2.2.2.1 p.2.2.2.2.2.2.2.2.2.2.2.2.2.2.1 p.2.2.2.2.2.2.2.2.2.2.2.2.2.2.2.1 p.2.2.2.2.2.2.2.2.2.2.2.2.2.2.2.2.1 p.2.2.2.2.2.2.2.2.2.2.2.2.2.2.2.2.2.1 p.2.2.2.2.2.2.2.2.2.2.2.2.2.2.2.2.2.2.1 p.2.2.2.2.2.2.2.2.2.2.2.2.2.2.2.2.2.2.2.1 p.2.2.2.2.2.2.2.2.2.2.2.2.2.2.2.2.2.2.2.2.1 p.2.2.2.2.2.2.2.2.2.2.2.2.2.2.2.2.2.2.2.2.2.1 p.2.2.2.2.2.2.2.2.2.2.2.2.2.2.2.2.2.2.2.2.2.2.1 p.2.2.2.2.2.2.2.2.2.2.2.2.2.2.2.2.2.2.2.2.2.2.2.1 p.2.2.2.2.2.2.2.2.2.2.2.2.2.2.2.2.2.2.2.2.2.2.2.2.1 p.2.2.2.2.2.2.2.2.2.2.2.2.2.2.2.2.2.2.2.2.2.2.2.2.2 a b c d 0 (lastW p) size = _ from e5, bo_sum, show L_sPeerOk_2 n n p.1 p.2.1 p.2.2.1 p.2.2.2.1 p.2.2.2.2.1 p.2.2.2.2.2.1 p.2.2.2.2.2.2.1 p.2.2.2.2.2.2.2.1 p.2.2.2.2.2.2.2.2.1 p.2.2.2.2.2.2.2.2.2.1 p.2.2.2.2.2.2.2.2.2.2.1 p.2.2.2.2.2.2.2.2.2.2.2.1 p.2.2.2.2.2.2.2.2.2.2.2.2.1 p.2.2.2.2.2.2.2.2.2.2.2.2.2.1 p.2.2.2.2.2.2.2.2.2.2.2.2.2.2.1 p.2.2.2.2.2.2.2.2.2.2.2.2.2.2.2.1 p.2.2.2.2.2.2.2.2.2.2.2.2.2.2.2.2.1 p.2.2.2.2.2.2.2.2.2.2.2.2.2.2.2.2.2.1 p.2.2.2.2.2.2.2.2.2.2.2.2.2.2.2.2.2.2.1 p.2.2.2.2.2.2.2.2.2.2.2.2.2.2.2.2.2.2.2.1 p.2.2.2.2.2.2.2.2.2.2.2.2.2.2.2.2.2.2.2.2.1 p.2.2.2.2.2.2.2.2.2.2.2.2.2.2.2.2.2.2.2.2.2.1 p.2.2.2.2.2.2.2.2.2.2.2.2.2.2.2.2.2.2.2.2.2.2.1 p.2.2.2.2.2.2.2.2.2.2.2.2.2.2.2.2.2.2.2.2.2.2.2.1 p.2.2.2.2.2.2.2.2.2.2.2.2.2.2.2.2.2.2.2.2.2.2.2.2.1 p.2.2.2.2.2.2.2.2.2.2.2.2.2.2.2.2.2.2.2.2.2.2.2.2.2 a b c d 0 size (lastW p) = _ from e6, e2, e3, e7, e9, e10, e11]
    have q3 : (∀ i, i < p.2.2.2.2.2.2.2.2.2.2.2.2.2.2.1.length → At p.2.2.2.2.2.2.2.2.2.2.2.2.2.2.1 (fun x => In x 1 (IntKind.wrap .i64 (lastW p + 1))) i ∧ At p.2.2.2.2.2.2.2.2.2.2.2.2.2.2.2.1 (fun x => In x 0 (lastW p)) i) ↔ (∀ x ∈ p.2.2.2.2.2.2.2.2.2.2.2.2.2.2.1, In x 1 (IntKind.wrap .i64 (lastW p + 1))) ∧ (∀ x ∈ p.2.2.2.2.2.2.2.2.2.2.2.2.2.2.2.1, In x 0 (lastW p)) := by
      rw [← At_all, ← At_all, show p.2.2.2.2.2.2.2.2.2.2.2.2.2.2.2.1.length = p.2.2.2.2.2.2.2.2.2.2.2.2.2.2.1.length by omega]
      grind
    rw [q3]
    clear e2 e3 e4 e5 e6 e7 e8 e9 e10 e11 k2 k3 k4 k7 k8 q1 q2 q3 hr hl h6 h7 h10 h14 h15 h17 h18 h21 h25 h
    simp only [bo_dec, bo_bne, bo_not, bo_or, bo_and, bo_tf, bo_nand, bo_bind, bo_sum, Option.bind_some]
    refine bo_congr ?_
    unfold PeerW HardW MachW
    grind
  · refine k8.nm fun n ⟨⟨⟨e2, e3⟩, e4, e7⟩, ⟨e8, e9⟩, e10, e11⟩ => ?_
    rw [eq_sPeerOk, e8]
    have hf : ¬ PeerW a b c d p size := by unfold PeerW; grind
    rw [bo_f hf]
    simp only [Option.bind_some, e2, e9, e10, bo_bne, bo_not, bo_dec]
    have : ∀ x : Option Bool, cond (bo (¬ (p.2.2.2.2.2.2.2.2.2.2.2.2.2.2.1.length : Int) = size)) (some true) (some (bo (¬ (p.2.2.2.2.2.2.2.2.2.2.2.2.2.2.2.1.length : Int) = size))) = some true := fun _ => by
      rw [bo_or, bo_t (by grind)]
    simp only [this none]
    cases bo (¬ In size 1 5) <;> cases bo (¬ In p.1 0 (IntKind.wrap .i64 (size - 1))) <;> try rfl
    all_goals simp only [cond_false, cond_true, Option.bind_some]
    all_goals simp only [bo_bind, Option.bind_some, cond_true, Bool.cond_self]
end Go.Proofs.YtmabfdnconccnaaGreatDoor
