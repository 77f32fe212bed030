/- What is right: worlds. -/
import Derived.Test.YtmabfdnconccnaaGreatDoorTxtOk5
namespace Go.Proofs.YtmabfdnconccnaaGreatDoor
open Go Go.Ev
theorem sp_sSinkOk (a : Int) (s : Bytes) : Evt fun n => F_sSinkOk n a s = some (bo (In a 0 300 ∧ s.length ≤ 1500)) := by
  refine (sp_sl1In a 0 300).nm fun n e => ?_
  rw [eq_sSinkOk, e]
  ((try simp only [bo_dec, bo_beq, bo_bne, bo_not, Option.bind_some, Option.bind_none, bo_bind, bo_sum, cond_true, cond_false, bo_tf, bo_ft, Bool.not_true, Bool.not_false]); (try simp only [bo_ite]); (repeat' split); all_goals first | rfl | (refine bo_congr ?_; grind) | (refine bo_some_t ?_; grind) | (refine bo_some_f ?_; grind) | (exfalso; grind))
theorem sp_iSinkOk (a : Int) (s : Bytes) : Evt fun n => F_iSinkOk n a s = some (bo (In a 0 300 ∧ s.length ≤ 1500)) := by
  refine (sp_iisIndex a).nm fun n e => ?_
  rw [eq_iSinkOk, e]
  ((try simp only [bo_dec, bo_beq, bo_bne, bo_not, Option.bind_some, Option.bind_none, bo_bind, bo_sum, cond_true, cond_false, bo_tf, bo_ft, Bool.not_true, Bool.not_false]); (try simp only [bo_ite]); (repeat' split); all_goals first | rfl | (refine bo_congr ?_; grind) | (refine bo_some_t ?_; grind) | (refine bo_some_f ?_; grind) | (exfalso; grind))
def NumsW (l : t_i) : Prop := l.length = 3 ∧ ∀ x ∈ l, In x 0 100000
theorem sp_sl26Nums (l : t_i) (hl : l.length ≤ 1048576) : Evt fun n => F_sl26Nums n l = some (bo (NumsW l)) := by
  have k := all_loop hl (p := fun x => In x 0 100000) (r := false) (b := l) (L := fun n m i => L_sl26Nums_0 n m i l) ((Evt.all l fun x _ => sp_sl1In x 0 100000).mono fun n h m i hi => by
    rw [eqL_sl26Nums_0, lt_dec hi, atZ_at hi]
    simp only [cond_true, Option.bind_some, h _ (List.getElem_mem hi), bo_not]
    exact bo_sw (by simp)) (fun n m => by rw [eqL_sl26Nums_0, lt_nd]; rfl)
  refine k.nm fun n e => ?_
  rw [eq_sl26Nums, show L_sl26Nums_0 n n 0 l = _ from e]
  simp only [Option.bind_some, bo_sum]
  unfold NumsW
  ((try simp only [bo_dec, bo_beq, bo_bne, bo_not, Option.bind_some, Option.bind_none, bo_bind, bo_sum, cond_true, cond_false, bo_tf, bo_ft, Bool.not_true, Bool.not_false]); (try simp only [bo_ite]); (repeat' split); all_goals first | rfl | (refine bo_congr ?_; grind) | (refine bo_some_t ?_; grind) | (refine bo_some_f ?_; grind) | (exfalso; grind))
theorem sp_nums3 (l : t_i) (hl : l.length ≤ 1048576) : Evt fun n => F_inumbersOk n l 3 0 100000 = some (bo (NumsW l)) := by
  refine (sp_inumbersOk l 3 0 100000 hl).mono fun n e => ?_
  rw [e]
  refine bo_congr ?_
  unfold NumsW
  grind
def WorldW (x0 : t_s) (x1 : t_s) (x2 : t_iis) (x3 : t_iis) (x4 : Int) (x5 : t_q0) (x6 : t_q1) (x7 : Int) (x8 : Bytes) (x9 : t_i) (x10 : t_i) (x11 : t_iis) : Prop :=
  ProgOk x0 x1 x2 x3 ∧ In x4 1 5 ∧ (x5.length : Int) = x4 ∧ x6.length ≤ 40 ∧ (In x7 0 300 ∧ x8.length ≤ 1500) ∧ NumsW x9 ∧ NumsW x10 ∧ x11.length ≤ 300 ∧
  (∀ i, i < x5.length → At x5 (fun p => p.1 = (i : Int) ∧ PeerW x0 x1 x2 x3 p x4) i) ∧ (∀ r ∈ x6, RpcW r x4) ∧ ∀ c ∈ x11, CmdOk c.1 c.2.1 c.2.2
def smWorld (x0 : t_s) (x1 : t_s) (x2 : t_iis) (x3 : t_iis) (x4 : Int) (x5 : t_q0) (x6 : t_q1) (x7 : Int) (x8 : Bytes) (x9 : t_i) (x10 : t_i) (x11 : t_iis) : Prop :=
  smProg x0 x1 x2 x3 ∧ (x5.length ≤ 1048576 ∧ ∀ p ∈ x5, smPeer p) ∧ (x6.length ≤ 1048576 ∧ ∀ r ∈ x6, smRpc r) ∧ x9.length ≤ 1048576 ∧ x10.length ≤ 1048576 ∧ (x11.length ≤ 1048576 ∧ ∀ c ∈ x11, c.2.2.length ≤ 1048576)
theorem sp_sWorldOk (x0 : t_s) (x1 : t_s) (x2 : t_iis) (x3 : t_iis) (x4 : Int) (x5 : t_q0) (x6 : t_q1) (x7 : Int) (x8 : Bytes) (x9 : t_i) (x10 : t_i) (x11 : t_iis) (h : smWorld x0 x1 x2 x3 x4 x5 x6 x7 x8 x9 x10 x11) : Evt fun n => F_sWorldOk n x0 x1 x2 x3 x4 x5 x6 x7 x8 x9 x10 x11 = some (bo (WorldW x0 x1 x2 x3 x4 x5 x6 x7 x8 x9 x10 x11)) := by
  obtain ⟨hp, ⟨h5, h5'⟩, ⟨h6, h6'⟩, h9, h10, h11, h11'⟩ := h
  have k8 := (((sp_sProgOk x0 x1 x2 x3 hp).and (sp_sl1In x4 1 5)).and ((sp_sSinkOk x7 x8).and ((sp_sl26Nums x9 h9).and (sp_sl26Nums x10 h10))))
  by_cases hg : (x5.length : Int) = x4
  · have q1 := rng_loop h5 (q := fun i => At x5 (fun p => p.1 = (i : Int) ∧ PeerW x0 x1 x2 x3 p x4) i) (r := false) (b := (x0, (x1, (x2, (x3, (x4, (x5, (x6, (x7, (x8, (x9, (x10, x11)))))))))))) (L := fun n m i => L_sWorldOk_0 n m x0 x1 x2 x3 x4 x5 x6 x7 x8 x9 x10 x11 i) ((Evt.all x5 fun p hm => sp_sPeerOk x0 x1 x2 x3 p x4 hp (h5' p hm)).mono fun n h m i hi => by
      rw [eqL_sWorldOk_0, decide_eq_true (by omega), atZ_at hi]
      simp only [cond_true, Option.bind_some, h _ (List.getElem_mem hi), bo_bne, bo_not, bo_orr, At_at hi]
      exact bo_sw (by grind)) (fun n m => by rw [eqL_sWorldOk_0, decide_eq_false (by omega)]; rfl)
    have q2 := all_loop h6 (p := fun r => RpcW r x4) (r := false) (b := (x0, (x1, (x2, (x3, (x4, (x5, (x6, (x7, (x8, (x9, (x10, x11)))))))))))) (L := fun n m i => L_sWorldOk_2 n m x0 x1 x2 x3 x4 x5 x6 x7 x8 x9 x10 x11 i) ((Evt.all x6 fun r hm => sp_sRpcOk r x4 (h6' r hm)).mono fun n h m i hi => by
      rw [eqL_sWorldOk_2, lt_dec hi, atZ_at hi]
      simp only [cond_true, Option.bind_some, h _ (List.getElem_mem hi), bo_not]
      exact bo_sw (by simp)) (fun n m => by rw [eqL_sWorldOk_2, lt_nd]; rfl)
    have q3 := all_loop h11 (p := fun c => CmdOk c.1 c.2.1 c.2.2) (r := false) (b := ()) (L := fun n m i => L_sWorldOk_4 n m x0 x1 x2 x3 x4 x5 x6 x7 x8 x9 x10 x11 i) ((Evt.all x11 fun c hm => sp_sCmdOk c.1 c.2.1 c.2.2 (h11' c hm)).mono fun n h m i hi => by
      rw [eqL_sWorldOk_4, lt_dec hi, atZ_at hi]
      simp only [cond_true, Option.bind_some, h _ (List.getElem_mem hi), bo_not]
      exact bo_sw (by simp)) (fun n m => by rw [eqL_sWorldOk_4, lt_nd]; rfl)
    refine (k8.and (q1.and (q2.and q3))).nm fun n ⟨⟨⟨e1, e2⟩, e3, e4, e5⟩, e6, e7, e8⟩ => ?_
    rw [eq_sWorldOk, e1]
    simp only [Option.bind_some, e2, e3, e4, e5, show L_sWorldOk_0 n n x0 x1 x2 x3 x4 x5 x6 x7 x8 x9 x10 x11 0 = _ from e6, bo_sum, show L_sWorldOk_2 n n x0 x1 x2 x3 x4 x5 x6 x7 x8 x9 x10 x11 0 = _ from e7, show L_sWorldOk_4 n n x0 x1 x2 x3 x4 x5 x6 x7 x8 x9 x10 x11 0 = _ from e8]
    clear e1 e2 e3 e4 e5 e6 e7 e8 k8 q1 q2 q3 h5 h5' h6 h6' h9 h10 h11 h11' hp
    simp only [bo_bne, bo_dec, bo_not, bo_or, bo_and, bo_tf, bo_nand, bo_bind, bo_sum, Option.bind_some]
    refine bo_congr ?_
    unfold WorldW
    grind
  · refine k8.nm fun n ⟨⟨e1, e2⟩, e3, e4, e5⟩ => ?_
    have hf : ¬ WorldW x0 x1 x2 x3 x4 x5 x6 x7 x8 x9 x10 x11 := by unfold WorldW; grind
    rw [eq_sWorldOk, e1, bo_f hf]
    simp only [Option.bind_some, e2, bo_bne, bo_t hg, cond_true, bo_not, bo_bind, Bool.cond_self]
theorem sp_iWorldOk (x0 : t_s) (x1 : t_s) (x2 : t_iis) (x3 : t_iis) (x4 : Int) (x5 : t_q0) (x6 : t_q1) (x7 : Int) (x8 : Bytes) (x9 : t_i) (x10 : t_i) (x11 : t_iis) (h : smWorld x0 x1 x2 x3 x4 x5 x6 x7 x8 x9 x10 x11) : Evt fun n => F_iWorldOk n x0 x1 x2 x3 x4 x5 x6 x7 x8 x9 x10 x11 = some (bo (WorldW x0 x1 x2 x3 x4 x5 x6 x7 x8 x9 x10 x11)) := by
  obtain ⟨hp, ⟨h5, h5'⟩, ⟨h6, h6'⟩, h9, h10, h11, h11'⟩ := h
  have k0 : Evt fun n => ∀ r ∈ x6, F_iWorldOk_1 n x0 x1 x2 x3 x4 x5 x6 x7 x8 x9 x10 x11 r.1 r.2.1 r.2.2.1 r.2.2.2.1 r.2.2.2.2.1 r.2.2.2.2.2.1 r.2.2.2.2.2.2.1 r.2.2.2.2.2.2.2.1 r.2.2.2.2.2.2.2.2.1 r.2.2.2.2.2.2.2.2.2 = some (bo (¬ RpcW r x4), (x0, (x1, (x2, (x3, (x4, (x5, (x6, (x7, (x8, (x9, (x10, x11)))))))))))) := Evt.all _ fun r hm => (sp_iRpcOk r x4 (h6' r hm)).nm fun n e1 => by
    rw [eq_iWorldOk_1, e1]
    simp only [Option.bind_some, bo_not]
  have h' := any_loop h6 (p := fun r => ¬ RpcW r x4) (r := fun i => (i, (x0, (x1, (x2, (x3, (x4, (x5, (x6, (x7, (x8, (x9, (x10, x11))))))))))))) (b := (x0, (x1, (x2, (x3, (x4, (x5, (x6, (x7, (x8, (x9, (x10, x11)))))))))))) (L := fun n m i => L_slices_IndexFunc_impl_Rpc_impl_Rpc_2_0 n m x0 x1 x2 x3 x4 x5 x6 x7 x8 x9 x10 x11 i x6 (x6.length : Int)) (k0.mono fun n h m i hi => by
      rw [eqL_slices_IndexFunc_impl_Rpc_impl_Rpc_2_0, lt_dec hi, atZ_at hi]
      simp only [cond_true, Option.bind_some, h _ (List.getElem_mem hi)]) (fun n m => by rw [eqL_slices_IndexFunc_impl_Rpc_impl_Rpc_2_0, lt_nd]; rfl)
  have k1 : Evt fun n => F_slices_ContainsFunc_impl_Rpc_impl_Rpc_2 n x0 x1 x2 x3 x4 x5 x6 x7 x8 x9 x10 x11 x6 = some (bo (∃ r ∈ x6, ¬ RpcW r x4), (x0, (x1, (x2, (x3, (x4, (x5, (x6, (x7, (x8, (x9, (x10, x11)))))))))))) := Evt.succ (h'.nm fun n h => by
      rw [eq_slices_ContainsFunc_impl_Rpc_impl_Rpc_2, eq_slices_IndexFunc_impl_Rpc_impl_Rpc_2]
      refine any_res (l := x6) (p := fun r => ¬ RpcW r x4) (c := (x0, (x1, (x2, (x3, (x4, (x5, (x6, (x7, (x8, (x9, (x10, x11)))))))))))) ?_
      rcases h with ⟨h, i, e⟩ | ⟨h, e⟩
      · exact .inl ⟨h, i, by rw [e]; rfl⟩
      · exact .inr ⟨h, by rw [e]; rfl⟩)
  have k0' : Evt fun n => ∀ c ∈ x11, F_iWorldOk_2 n c.1 c.2.1 c.2.2 = some (bo (¬ CmdOk c.1 c.2.1 c.2.2)) := Evt.all _ fun c hm => (sp_iCmdOk c.1 c.2.1 c.2.2).nm fun n e1 => by
    rw [eq_iWorldOk_2, e1]
    simp only [Option.bind_some, bo_not]
  have h'' := any_loop h11 (p := fun c => ¬ CmdOk c.1 c.2.1 c.2.2) (r := fun i => i) (b := ()) (L := fun n m i => L_slices_IndexFunc_impl_Cmd_impl_Cmd_0 n m i x11 (x11.length : Int)) (k0'.mono fun n h m i hi => by
      rw [eqL_slices_IndexFunc_impl_Cmd_impl_Cmd_0, lt_dec hi, atZ_at hi]
      simp only [cond_true, Option.bind_some, h _ (List.getElem_mem hi)]) (fun n m => by rw [eqL_slices_IndexFunc_impl_Cmd_impl_Cmd_0, lt_nd]; rfl)
  have k2 : Evt fun n => F_slices_ContainsFunc_impl_Cmd_impl_Cmd n x11 = some (bo (∃ c ∈ x11, ¬ CmdOk c.1 c.2.1 c.2.2)) := Evt.succ (h''.nm fun n h => by
      rw [eq_slices_ContainsFunc_impl_Cmd_impl_Cmd, eq_slices_IndexFunc_impl_Cmd_impl_Cmd]
      refine any_res1 (l := x11) (p := fun c => ¬ CmdOk c.1 c.2.1 c.2.2) ?_
      rcases h with ⟨h, i, e⟩ | ⟨h, e⟩
      · exact .inl ⟨h, i, by rw [e]; rfl⟩
      · exact .inr ⟨h, by rw [e]; rfl⟩)
  have q1 := rng_loop h5 (q := fun i => At x5 (fun p => p.1 = (i : Int) ∧ PeerW x0 x1 x2 x3 p x4) i) (r := false) (b := (x0, (x1, (x2, (x3, (x4, (x5, (x6, (x7, (x8, (x9, (x10, x11)))))))))))) (L := fun n m i => L_iWorldOk_0 n m x0 x1 x2 x3 x4 x5 x6 x7 x8 x9 x10 x11 i x5 (x5.length : Int)) ((Evt.all x5 fun p hm => sp_iPeerOk x0 x1 x2 x3 p x4 hp (h5' p hm)).mono fun n h m i hi => by
      rw [eqL_iWorldOk_0, lt_dec hi, atZ_at hi]
      simp only [cond_true, Option.bind_some, h _ (List.getElem_mem hi), bo_bne, bo_not, bo_orr, At_at hi]
      exact bo_sw (by grind)) (fun n m => by rw [eqL_iWorldOk_0, lt_nd]; rfl)
  have k8 := (((sp_iProgOk x0 x1 x2 x3 hp).and (sp_iin x4 1 5)).and ((sp_iSinkOk x7 x8).and ((sp_nums3 x9 h9).and (sp_nums3 x10 h10))))
  refine (k8.and (q1.and (k1.and k2))).nm fun n ⟨⟨⟨e1, e2⟩, e3, e4, e5⟩, e6, e7, e8⟩ => ?_
  rw [eq_iWorldOk, e1]
  simp only [Option.bind_some, e2, e3, show L_iWorldOk_0 n n x0 x1 x2 x3 x4 x5 x6 x7 x8 x9 x10 x11 0 x5 x5.length = _ from e6, bo_sum, e4, e5, e7, e8]
  clear e1 e2 e3 e4 e5 e6 e7 e8 k8 q1 k0 k0' k1 k2 h' h'' h5 h5' h6 h6' h9 h10 h11 h11' hp
  simp only [bo_bne, bo_dec, bo_not, bo_or, bo_and, bo_tf, bo_nand, bo_bind, bo_sum, Option.bind_some]
  refine bo_congr ?_
  unfold WorldW
  grind
end Go.Proofs.YtmabfdnconccnaaGreatDoor
