/- A verified evaluator of the machine's code, part 3: no program in sight. -/
import Derived.Test.YtmabfdnconccnaaGreatDoorEv2
import Derived.ChangeArms
import Derived.WideShapes
import Derived.Carry
import Derived.Below
import Derived.IntWalk
import Derived.Lib.ItoaLen
import Derived.Lib.LaidTab
import Derived.Sort.Grow
import Derived.Deep.Draws
namespace Go.Ev
section
variable {w0 w : World} {F R : Nat → Prop} {st : St} {θ : Asg}
theorem Inv.adopt (h : Inv w0 F R st θ w) {b g : Nat} (hb : st.boxes b = none) {cs : List Cell} {arr : Array Value} {ty : TypeId} {frz : Nat × Nat} (hg : hp w g = some (.cells arr ty frz)) (hz : unfz arr.size frz)
    (hr : RelCs (hp w) R st θ cs arr.toList) (ho : ¬ Owned st θ g) (hF : F g ∨ w0.heap.size ≤ g) :
    Inv w0 F R { st with boxes := upd st.boxes b (some cs) } { θ with bx := upd θ.bx b g } w ∧ Step R st θ (hp w) { st with boxes := upd st.boxes b (some cs) } { θ with bx := upd θ.bx b g } (hp w) := by
  have hne : ∀ b', (st.boxes b').isSome = true → b' ≠ b := fun b' hb' e => by subst e; simp [hb] at hb'
  have s : Step R st θ (hp w) { st with boxes := upd st.boxes b (some cs) } { θ with bx := upd θ.bx b g } (hp w) := by
    refine ⟨fun _ _ => rfl, fun b' hb' => ?_, fun k => .inl ⟨rfl, fun hk => ⟨rfl, rfl, fun _ _ => rfl⟩⟩⟩
    simp only [upd_ne _ _ (hne b' hb')]
    exact ⟨hb', trivial⟩
  refine ⟨h.next s (Nat.le_refl _) rfl rfl rfl (fun _ _ e => absurd rfl e) ?_ (fun k d hd => .inl ⟨hd, rfl, rfl, fun _ _ => rfl⟩) ?_ ?_ h.oo ?_, s⟩
  · intro b' cs' hcs'
    by_cases e : b' = b
    · subst e
      simp only [upd_same, Option.some.injEq] at hcs'
      subst hcs'
      exact .inr ⟨arr, ty, frz, by simp only [upd_same]; exact hg, hz, RelCs.step s _ _ hr⟩
    · simp only [upd_ne _ _ e] at hcs'
      exact .inl ⟨hcs', rfl⟩
  · intro b1 b2 h1 h2 e
    by_cases e1 : b1 = b <;> by_cases e2 : b2 = b
    · rw [e1, e2]
    · subst e1
      simp only [upd_ne _ _ e2, upd_same] at h2 e
      exact absurd (.inl ⟨b2, h2, e.symm⟩) ho
    · subst e2
      simp only [upd_ne _ _ e1, upd_same] at h1 e
      exact absurd (.inl ⟨b1, h1, e⟩) ho
    · simp only [upd_ne _ _ e1, upd_ne _ _ e2] at h1 h2 e
      exact h.bb b1 b2 h1 h2 e
  · intro b1 k h1 hk
    by_cases e1 : b1 = b
    · subst e1
      simp only [upd_same]
      intro hgk
      exact ho (.inr ⟨k, hk, hgk⟩)
    · simp only [upd_ne _ _ e1] at h1 ⊢
      exact h.bo b1 k h1 hk
  · rintro g' (⟨b1, h1, rfl⟩ | ⟨k, hk, hg'⟩)
    · by_cases e1 : b1 = b
      · subst e1; simp only [upd_same]; exact hF
      · simp only [upd_ne _ _ e1] at h1 ⊢
        exact h.own _ (.inl ⟨b1, h1, rfl⟩)
    · exact h.own _ (.inr ⟨k, hk, hg'⟩)
theorem Inv.drop (h : Inv w0 F R st θ w) (θ' : Asg) : Inv w0 F R st0 θ' w where
  size := h.size
  same := h.same
  os := h.os
  tape := h.tape
  out := h.out
  rd := h.rd
  boxes := fun b cs hb => by simp [st0] at hb
  objs := fun k d hd => by simp [st0] at hd
  bb := fun b b' hb => by simp [st0] at hb
  bo := fun b k hb => by simp [st0] at hb
  oo := fun k k' g hk => by simp [st0] at hk
  own := fun g hg => by
    rcases hg with ⟨b, hb, -⟩ | ⟨k, hk, -⟩
    · simp [st0] at hb
    · simp [st0] at hk
theorem owned0 {θ : Asg} {g : Nat} : ¬ Owned st0 θ g := by
  rintro (⟨b, hb, -⟩ | ⟨k, hk, -⟩)
  · simp [st0] at hb
  · simp [st0] at hk
end
section
variable {w0 w : World} {F R : Nat → Prop} {B : Nat → Nat → Prop} {nal : Bool} {β : Type} {bl : Nat → Nat}
structure NInv (w0 : World) (F R : Nat → Prop) (nal : Bool) (bl : Nat → Nat) (w : World) (su : St) (θ : Asg) (L : Env) : Prop where
  inv : Inv w0 F R su θ w
  env : nal = false → ∀ e ∈ L, (su.objs e.1).dat.isSome = true ∧ θ.ob e.1 = e.2.1 ∧ θ.fp e.1 = e.2.2
  bx : ∀ m, (su.boxes m).isSome = true → θ.bx m = bl m
theorem NInv.u (hB : ∀ m g, B m g → bl m = g) {su : St} {θ : Asg} {L : Env} (h : NInv w0 F R nal bl w su θ L) : UInv w0 F R B nal su.boxes w su θ L :=
  ⟨h.inv, h.env, fun m g hb hs => ⟨hs, (h.bx m hs).trans (hB m g hb)⟩⟩
theorem Free.sub {st : St} {θ : Asg} {l l' : List Nat} (h : Free w0 F st θ l) (hs : l'.Sublist l) : Free w0 F st θ l' :=
  ⟨h.nodup.sublist hs, fun g hg => h.free g (hs.subset hg)⟩
theorem unNew_sound (hB : ∀ m g, B m g → bl m = g) : ∀ (bx : List (Nat × List CK)) {su st' : St} {θ : Asg} {L : Env} {ds rest : List DV} {A : Env} {K : List DV → M β} {y : β} {l : Log}, NInv w0 F R nal bl w su θ L → KBx (hp w) R B nal bl L bx ds A → Free w0 F su θ (A.fps ++ bx.map fun p => bl p.1) →
    (unNew bx (ds ++ rest) K).run su = some (y, st', l) → ∃ su' θ' l1, (K rest).run su' = some (y, st', l1) ∧ NInv w0 F R nal bl w su' θ' (L ++ A) ∧ (∀ p ∈ bx, (su'.boxes p.1).isSome = true) ∧ (∀ m, (su.boxes m).isSome = true → (su'.boxes m).isSome = true) ∧
      ∀ g, Owned su' θ' g → Owned su θ g ∨ g ∈ A.fps ∨ g ∈ bx.map fun p => bl p.1
  | [], su, st', θ, L, ds, rest, A, K, y, l, hu, hk, hf, h => by
    simp only [KBx] at hk
    obtain ⟨rfl, rfl⟩ := hk
    simp only [List.nil_append, unNew] at h
    exact ⟨su, θ, l, h, by simpa using hu, by simp, fun _ h => h, fun _ h => .inl h⟩
  | (b, ks) :: bx, su, st', θ, L, ds, rest, A, K, y, l, hu, hk, hf, h => by
    simp only [KBx] at hk
    obtain ⟨arr, ty, frz, d1, d2, A1, A2, rfl, rfl, h1, h2, h3, h4⟩ := hk
    simp only [unNew, List.append_assoc] at h
    rw [Env.fps_append] at hf
    simp only [List.map_cons] at hf
    have hfA : Free w0 F (su.bxd su.boxes) θ A1.fps := hf.sub (by simp [List.append_assoc])
    obtain ⟨cs, su1, θ1, l1, h, b1, t1, u1, s1, r1, x1, o1⟩ := unCKs_sound ks (hu.u hB) h3 hfA h
    obtain ⟨hnb, l2, h⟩ := M.nb_run h
    have u1' : Inv w0 F R su1 θ1 w := by
      have := u1.inv
      rwa [← b1] at this
    have o1' : ∀ g, Owned su1 θ1 g → Owned su θ g ∨ g ∈ A1.fps := fun g hg => o1 g (by rw [← b1]; exact hg)
    have r1' : RelCs (hp w) R su1 θ1 cs arr.toList := by rw [← b1] at r1; exact r1
    have hgno : ¬ Owned su1 θ1 (bl b) := fun ho => by
      rcases o1' _ ho with ho | ho
      · exact (hf.free (bl b) (by simp)).1 ho
      · have := hf.nodup
        rw [List.append_assoc] at this
        exact (List.nodup_append.1 this).2.2 _ ho _ (by simp) rfl
    obtain ⟨i1, i2⟩ := u1'.adopt hnb h1 h2 r1' hgno (hf.free (bl b) (by simp)).2
    have hn2 : NInv w0 F R nal bl w { su1 with boxes := upd su1.boxes b (some cs) } { θ1 with bx := upd θ1.bx b (bl b) } (L ++ A1) := by
      refine ⟨i1, u1.env, fun m hm => ?_⟩
      by_cases e : m = b
      · subst e; simp [upd_same]
      · simp only [upd_ne _ _ e] at hm ⊢
        rw [x1]
        exact hu.bx m (by rw [← b1]; exact hm)
    have hown2 : ∀ g, Owned { su1 with boxes := upd su1.boxes b (some cs) } { θ1 with bx := upd θ1.bx b (bl b) } g → Owned su θ g ∨ g ∈ A1.fps ∨ g = bl b := by
      rintro g (⟨b', hb', e⟩ | ⟨k, hk, hg⟩)
      · by_cases e' : b' = b
        · subst e'; simp only [upd_same] at e; exact .inr (.inr e.symm)
        · simp only [upd_ne _ _ e'] at hb' e
          exact (o1' g (.inl ⟨b', hb', e⟩)).imp id .inl
      · exact (o1' g (.inr ⟨k, hk, hg⟩)).imp id .inl
    have hf2 : Free w0 F { su1 with boxes := upd su1.boxes b (some cs) } { θ1 with bx := upd θ1.bx b (bl b) } (A2.fps ++ bx.map fun p => bl p.1) := by
      have hsub : (A2.fps ++ bx.map fun p => bl p.1).Sublist (A1.fps ++ A2.fps ++ (bl b :: bx.map fun p => bl p.1)) := by
        rw [List.append_assoc]
        exact (List.Sublist.append_left (List.sublist_cons_self _ _) _).trans (List.sublist_append_right _ _)
      have hnd := hf.nodup
      refine ⟨hnd.sublist hsub, fun g hg => ⟨fun ho => ?_, (hf.free g (hsub.subset hg)).2⟩⟩
      rcases hown2 g ho with ho | ho | ho
      · exact (hf.free g (hsub.subset hg)).1 ho
      · rw [List.append_assoc] at hnd
        refine (List.nodup_append.1 hnd).2.2 g ho g ?_ rfl
        rcases List.mem_append.1 hg with hg | hg
        · simp [hg]
        · exact List.mem_append.2 (.inr (List.mem_cons_of_mem _ hg))
      · subst ho
        rw [List.append_assoc] at hnd
        have h2 := (List.nodup_append.1 hnd).2.1
        rcases List.mem_append.1 hg with hg | hg
        · exact (List.nodup_append.1 h2).2.2 _ hg _ (by simp) rfl
        · exact (List.nodup_cons.1 (List.nodup_append.1 h2).2.1).1 hg
    obtain ⟨su2, θ2, l3, h, n2, q1, q2, q3⟩ := unNew_sound hB bx hn2 h4 hf2 h
    refine ⟨su2, θ2, l3, h, by rw [← List.append_assoc]; exact n2, fun p hp => ?_, fun m hm => q2 m ?_, fun g hg => ?_⟩
    · rcases List.mem_cons.1 hp with rfl | hp
      · exact q2 _ (by simp [upd_same])
      · exact q1 p hp
    · by_cases e : m = b
      · subst e; simp [upd_same]
      · simp only [upd_ne _ _ e]; rw [b1]; exact hm
    · rw [Env.fps_append]
      simp only [List.map_cons, List.mem_cons, List.mem_append]
      rcases q3 g hg with hg | hg | hg
      · rcases hown2 g hg with hg | hg | hg
        · exact .inl hg
        · exact .inr (.inl (.inl hg))
        · exact .inr (.inr (.inl hg))
      · exact .inr (.inl (.inr hg))
      · exact .inr (.inr (.inr hg))
theorem unTmps_sound (hB : ∀ m g, B m g → bl m = g) (val : Nat → Value) : ∀ (ts : List (Nat × TVK)) {su st' : St} {θ : Asg} {L : Env} {f : Nat → TV} {ds rest : List DV} {A : Env} {K : (Nat → TV) → M β} {y : β} {l : Log}, NInv w0 F R nal bl w su θ L → KTm (hp w) R B nal val L ts ds A → Free w0 F su θ A.fps → (∀ t, RelV (hp w) R su θ (f t) (val t)) →
    (unTmps ts f (ds ++ rest) K).run su = some (y, st', l) → ∃ f' su' θ' l1, (K f').run su' = some (y, st', l1) ∧ NInv w0 F R nal bl w su' θ' (L ++ A) ∧ su'.boxes = su.boxes ∧ (∀ t, RelV (hp w) R su' θ' (f' t) (val t))
  | [], su, st', θ, L, f, ds, rest, A, K, y, l, hu, hk, hf, hv, h => by
    simp only [KTm] at hk
    obtain ⟨rfl, rfl⟩ := hk
    simp only [List.nil_append, unTmps] at h
    exact ⟨f, su, θ, l, h, by simpa using hu, rfl, hv⟩
  | (t, k) :: ts, su, st', θ, L, f, ds, rest, A, K, y, l, hu, hk, hf, hv, h => by
    simp only [KTm] at hk
    obtain ⟨d1, d2, A1, A2, rfl, rfl, h1, h2⟩ := hk
    simp only [unTmps, List.append_assoc] at h
    obtain ⟨x, su1, θ1, l1, h, b1, t1, u1, s1, r1, x1, o1⟩ := unTV_sound k (hu.u hB) h1 (hf.left (A2 := A2)) h
    have hf2 := hf.split (A1 := A1) (A2 := A2) (st1 := su1) (θ1 := θ1) (fun g hg => o1 g (by rw [← b1]; exact hg))
    have n1 : NInv w0 F R nal bl w su1 θ1 (L ++ A1) := by
      refine ⟨by have := u1.inv; rwa [← b1] at this, u1.env, fun m hm => ?_⟩
      rw [x1]
      exact hu.bx m (by rw [← b1]; exact hm)
    have e1 : su1.bxd su.boxes = su1 := by rw [← b1]; rfl
    have s1' : Step R su θ (hp w) su1 θ1 (hp w) := by rw [e1] at s1; exact s1
    obtain ⟨f', su2, θ2, l2, h, n2, b2, r2⟩ := unTmps_sound hB val ts n1 h2 hf2 (f := upd f t x) (fun t' => by
      by_cases e : t' = t
      · subst e; rw [upd_same]; rw [← b1] at r1; exact r1
      · rw [upd_ne _ _ e]; exact RelV.step s1' _ _ (hv t')) h
    exact ⟨f', su2, θ2, l2, h, by rw [← List.append_assoc]; exact n2, b2.trans b1, r2⟩
theorem unSt_sound (hB : ∀ m g, B m g → bl m = g) (val : Nat → Value) {g : Gam} {dB dT : List DV} {AB AT : Env} {θ0 : Asg} {K : (Nat → TV) → M β} {y : β} {st' : St} {l : Log} (hI : Inv w0 F R st0 θ0 w) (hkb : KBx (hp w) R B nal bl [] g.boxes dB AB) (hkt : KTm (hp w) R B nal val AB g.tmps dT AT)
    (hn : ((AB ++ AT).fps ++ g.boxes.map fun p => bl p.1).Nodup) (ho : ∀ b ∈ (AB ++ AT).fps ++ g.boxes.map fun p => bl p.1, F b ∨ w0.heap.size ≤ b)
    (h : (unSt g (dB ++ dT) K).run st0 = some (y, st', l)) :
    ∃ f su θ' l1, (K f).run su = some (y, st', l1) ∧ Inv w0 F R su θ' w ∧ (∀ t, RelV (hp w) R su θ' (f t) (val t)) ∧ ∀ p ∈ g.boxes, (su.boxes p.1).isSome = true ∧ θ'.bx p.1 = bl p.1 := by
  have n0 : NInv w0 F R nal bl w st0 θ0 [] := ⟨hI, fun _ e he => by simp at he, fun m hm => by simp [st0] at hm⟩
  have hsub : (AB.fps ++ g.boxes.map fun p => bl p.1).Sublist ((AB ++ AT).fps ++ g.boxes.map fun p => bl p.1) := by
    rw [Env.fps_append]
    exact List.Sublist.append_right (List.sublist_append_left _ _) _
  simp only [unSt] at h
  obtain ⟨su, θ1, l1, h, n1, q1, q2, q3⟩ := unNew_sound hB g.boxes n0 hkb ⟨hn.sublist hsub, fun b hb => ⟨owned0, ho b (hsub.subset hb)⟩⟩ h
  have hfT : Free w0 F su θ1 AT.fps := by
    have hn' := hn
    rw [Env.fps_append] at hn'
    refine ⟨hn'.sublist ((List.sublist_append_right _ _).trans (List.sublist_append_left _ _)), fun b hb => ⟨fun hob => ?_, ho b (by rw [Env.fps_append]; simp [hb])⟩⟩
    rcases q3 b hob with hq | hq | hq
    · exact owned0 hq
    · exact (List.nodup_append.1 (List.nodup_append.1 hn').1).2.2 b hq b hb rfl
    · exact (List.nodup_append.1 hn').2.2 b (by simp [hb]) b hq rfl
  rw [← List.append_nil dT] at h
  obtain ⟨f, su2, θ2, l2, h, n2, b2, r2⟩ := unTmps_sound hB val g.tmps n1 (by simpa using hkt) hfT (fun t => relV_undef _) h
  exact ⟨f, su2, θ2, l2, h, n2.inv, r2, fun p hp => ⟨by rw [b2]; exact q1 p hp, n2.bx p.1 (by rw [b2]; exact q1 p hp)⟩⟩
end
end Go.Ev
namespace Go.Ev
mutual
def okK (pb : Bool) : CK → Bool
  | .al _ => false
  | .gs _ _ => false
  | .pb _ _ => pb
  | .fn _ a b => okKs pb a && okKs pb b
  | _ => true
def okKs (pb : Bool) : List CK → Bool
  | [] => true
  | c :: cs => okK pb c && okKs pb cs
end
def okV (pb : Bool) : TVK → Bool
  | .one c => okK pb c
  | .agg cs => okKs pb cs
  | .tup vs => okVs vs
where
  okVs : List TVK → Bool
    | [] => true
    | .one c :: r => okK pb c && okVs r
    | .agg cs :: r => okKs pb cs && okVs r
    | .tup _ :: _ => false
def okVL (pb : Bool) : List TVK → Bool
  | [] => true
  | c :: cs => okV pb c && okVL pb cs
def okB (pb : Bool) : List (Nat × List CK) → Bool
  | [] => true
  | (_, ks) :: r => okKs pb ks && okB pb r
def zipB : List (Nat × List CK) → List (List CK) → List (Nat × List CK)
  | (m, _) :: bx, ks :: r => (m, ks) :: zipB bx r
  | _, _ => []
section
variable {H : Heap} {R R' : Nat → Prop} {B B' : Nat → Nat → Prop} {pb : Bool}
theorem RelD.anyR {d : Dat} {v : Value} {fp : List Nat} (h : RelD H R true d v fp) : RelD H R' true d v fp := by
  revert h
  refine Dat.rec (motive_1 := fun d => ∀ (v : Value) (fp : List Nat), RelD H R true d v fp → RelD H R' true d v fp)
    (motive_2 := fun ds => ∀ (vs : List Value) (fp : List Nat), RelDs H R true ds vs fp → RelDs H R' true ds vs fp) ?_ ?_ ?_ ?_ ?_ ?_ d v fp
  · intro x v fp h; simpa only [RelD] using h
  · intro k m v fp h; simpa only [RelD] using h
  · intro x v fp h; simpa only [RelD] using h
  · intro sz cs ih v fp h
    simp only [RelD] at h ⊢
    obtain ⟨a, len, cap, h1, h2, h3, h4, h5, h⟩ := h
    refine ⟨a, len, cap, h1, h2, h3, h4, h5, ?_⟩
    rcases h with ⟨-, h | ⟨g, cur, ty, frz, fps, k1, k2, k3, k4, k5, k6⟩⟩ | ⟨h, -⟩
    · exact .inl ⟨trivial, .inl h⟩
    · exact .inl ⟨trivial, .inr ⟨g, cur, ty, frz, fps, k1, k2, k3, k4, k5, ih _ _ k6⟩⟩
    · simp at h
  · intro vs fp h; simpa only [RelDs] using h
  · intro d ds ih1 ih2 vs fp h
    simp only [RelDs] at h ⊢
    obtain ⟨v, vs', f1, f2, h1, h2, h3, h4⟩ := h
    exact ⟨v, vs', f1, f2, h1, h2, ih1 _ _ h3, ih2 _ _ h4⟩
mutual
theorem KRel.up (hB : pb = true → ∀ m g, B m g → B' m g) : ∀ (k : CK) {L L' : Env} {nm : Nat} {ds : List DV} {v : Value} {A : Env} {nal : Bool}, okK pb k = true → KRel H R B nal L nm k ds v A → KRel H R B' true L' nm k ds v A
  | .undef, _, _, _, _, _, _, _, _, h => by simpa only [KRel] using h
  | .bool, _, _, _, _, _, _, _, _, h => by simpa only [KRel] using h
  | .int _, _, _, _, _, _, _, _, _, h => by simpa only [KRel] using h
  | .str, _, _, _, _, _, _, _, _, h => by simpa only [KRel] using h
  | .er, _, _, _, _, _, _, _, _, h => by simpa only [KRel] using h
  | .sh _, _, _, _, _, _, _, _, _, h => by simpa only [KRel] using h
  | .own _, _, _, _, _, _, _, _, _, h => by simpa only [KRel] using h
  | .nl, _, _, _, _, _, _, _, _, h => by simpa only [KRel] using h
  | .al _, _, _, _, _, _, _, _, hk, _ => by simp [okK] at hk
  | .gs _ _, _, _, _, _, _, _, _, hk, _ => by simp [okK] at hk
  | .pb _ _, _, _, _, _, _, _, _, hk, h => by
    simp only [okK] at hk
    simp only [KRel] at h ⊢
    obtain ⟨h1, h2, g, h3, h4⟩ := h
    exact ⟨h1, h2, g, hB hk _ _ h3, h4⟩
  | .nilp, _, _, _, _, _, _, _, _, h => by simpa only [KRel] using h
  | .nilf, _, _, _, _, _, _, _, _, h => by simpa only [KRel] using h
  | .fn f a b, _, _, _, _, _, _, _, hk, h => by
    simp only [okK, Bool.and_eq_true] at hk
    simp only [KRel] at h ⊢
    obtain ⟨va, vb, d1, d2, A1, A2, h1, h2, h3, h4, h5⟩ := h
    exact ⟨va, vb, d1, d2, A1, A2, h1, h2, h3, KRels.up hB a hk.1 h4, KRels.up hB b hk.2 h5⟩
theorem KRels.up (hB : pb = true → ∀ m g, B m g → B' m g) : ∀ (ks : List CK) {L L' : Env} {nm : Nat → Nat} {j : Nat} {ds : List DV} {vs : List Value} {A : Env} {nal : Bool}, okKs pb ks = true → KRels H R B nal L nm j ks ds vs A → KRels H R B' true L' nm j ks ds vs A
  | [], _, _, _, _, _, _, _, _, _, h => by simpa only [KRels] using h
  | c :: cs, _, _, _, _, _, _, _, _, hk, h => by
    simp only [okKs, Bool.and_eq_true] at hk
    simp only [KRels] at h ⊢
    obtain ⟨v, vs', d1, d2, A1, A2, h1, h2, h3, h4, h5, h6⟩ := h
    exact ⟨v, vs', d1, d2, A1, A2, h1, h2, h3, h4, KRel.up hB c hk.1 h5, KRels.up hB cs hk.2 h6⟩
end
theorem KRelTs.up (hB : pb = true → ∀ m g, B m g → B' m g) : ∀ (ks : List TVK) {L L' : Env} {nm : Nat → Nat} {j : Nat} {ds : List DV} {vs : List Value} {A : Env} {nal : Bool}, okV.okVs pb ks = true → KRelTs H R B nal L nm j ks ds vs A → KRelTs H R B' true L' nm j ks ds vs A
  | [], _, _, _, _, _, _, _, _, _, h => by simpa only [KRelTs] using h
  | .one c :: cs, _, _, _, _, _, _, _, _, hk, h => by
    simp only [okV.okVs, Bool.and_eq_true] at hk
    simp only [KRelTs] at h ⊢
    obtain ⟨v, vs', d1, d2, A1, A2, h1, h2, h3, h4, h5, h6⟩ := h
    exact ⟨v, vs', d1, d2, A1, A2, h1, h2, h3, h4, KRel.up hB c hk.1 h5, KRelTs.up hB cs hk.2 h6⟩
  | .agg kk :: cs, _, _, _, _, _, _, _, _, hk, h => by
    simp only [okV.okVs, Bool.and_eq_true] at hk
    simp only [KRelTs] at h ⊢
    obtain ⟨v, vs', d1, d2, A1, A2, h1, h2, h3, h5, h6⟩ := h
    exact ⟨v, vs', d1, d2, A1, A2, h1, h2, h3, KRels.up hB kk hk.1 h5, KRelTs.up hB cs hk.2 h6⟩
  | .tup _ :: _, _, _, _, _, _, _, _, _, hk, _ => by simp [okV.okVs] at hk
theorem KRelV.up (hB : pb = true → ∀ m g, B m g → B' m g) {k : TVK} {L L' : Env} {nm : Nat → Nat} {ds : List DV} {v : Value} {A : Env} {nal : Bool} (hk : okV pb k = true) (h : KRelV H R B nal L nm k ds v A) : KRelV H R B' true L' nm k ds v A := by
  cases k with
  | one c => simp only [okV] at hk; simp only [KRelV] at h ⊢; exact ⟨h.1, KRel.up hB c hk h.2⟩
  | agg ks => simp only [okV] at hk; simp only [KRelV] at h ⊢; obtain ⟨arr, h1, h2⟩ := h; exact ⟨arr, h1, KRels.up hB ks hk h2⟩
  | tup ks => simp only [okV] at hk; simp only [KRelV] at h ⊢; obtain ⟨arr, h1, h2⟩ := h; exact ⟨arr, h1, KRelTs.up hB ks hk h2⟩
theorem KBx.up (hB : pb = true → ∀ m g, B m g → B' m g) {bl : Nat → Nat} : ∀ {bx : List (Nat × List CK)} {L L' : Env} {ds : List DV} {A : Env} {nal : Bool}, okB pb bx = true → KBx H R B nal bl L bx ds A → KBx H R B' true bl L' bx ds A
  | [], _, _, _, _, _, _, h => h
  | (m, ks) :: rest, _, _, _, _, _, hk, h => by
    simp only [okB, Bool.and_eq_true] at hk
    simp only [KBx] at h ⊢
    obtain ⟨arr, ty, frz, d1, d2, A1, A2, h1, h2, h3, h4, h5, h6⟩ := h
    exact ⟨arr, ty, frz, d1, d2, A1, A2, h1, h2, h3, h4, KRels.up hB ks hk.1 h5, KBx.up hB hk.2 h6⟩
theorem KTm.up (hB : pb = true → ∀ m g, B m g → B' m g) {val : Nat → Value} : ∀ {ks : List TVK} {t : Nat} {L L' : Env} {ds : List DV} {A : Env} {nal : Bool}, okVL pb ks = true → KTm H R B nal val L (gamOf t ks) ds A → KTm H R B' true val L' (gamOf t ks) ds A
  | [], _, _, _, _, _, _, _, h => h
  | k :: rest, _, _, _, _, _, _, hk, h => by
    simp only [okVL, Bool.and_eq_true] at hk
    simp only [gamOf, KTm] at h ⊢
    obtain ⟨d1, d2, A1, A2, h1, h2, h5, h6⟩ := h
    exact ⟨d1, d2, A1, A2, h1, h2, h5.up hB hk.1, KTm.up hB hk.2 h6⟩
mutual
theorem KRel.anyR : ∀ (k : CK) {L : Env} {nm : Nat} {ds : List DV} {v : Value} {A : Env}, hasSh k = false → KRel H R B true L nm k ds v A → KRel H R' B true L nm k ds v A
  | .undef, _, _, _, _, _, _, h => by simpa only [KRel] using h
  | .bool, _, _, _, _, _, _, h => by simpa only [KRel] using h
  | .int _, _, _, _, _, _, _, h => by simpa only [KRel] using h
  | .str, _, _, _, _, _, _, h => by simpa only [KRel] using h
  | .er, _, _, _, _, _, _, h => by simpa only [KRel] using h
  | .sh _, _, _, _, _, _, hk, _ => by simp [hasSh] at hk
  | .own _, _, _, _, _, _, _, h => by
    simp only [KRel] at h ⊢
    obtain ⟨x, fp, h1, h2, h3, h4⟩ := h
    exact ⟨x, fp, h1, h2, h3.anyR, h4⟩
  | .nl, _, _, _, _, _, _, h => by simpa only [KRel] using h
  | .al _, _, _, _, _, _, _, h => by simpa only [KRel] using h
  | .gs _ _, _, _, _, _, _, _, h => by simpa only [KRel] using h
  | .pb _ _, _, _, _, _, _, _, h => by simpa only [KRel] using h
  | .nilp, _, _, _, _, _, _, h => by simpa only [KRel] using h
  | .nilf, _, _, _, _, _, _, h => by simpa only [KRel] using h
  | .fn f a b, _, _, _, _, _, hk, h => by
    simp only [hasSh, Bool.or_eq_false_iff] at hk
    simp only [KRel] at h ⊢
    obtain ⟨va, vb, d1, d2, A1, A2, h1, h2, h3, h4, h5⟩ := h
    exact ⟨va, vb, d1, d2, A1, A2, h1, h2, h3, KRels.anyR a hk.1 h4, KRels.anyR b hk.2 h5⟩
theorem KRels.anyR : ∀ (ks : List CK) {L : Env} {nm : Nat → Nat} {j : Nat} {ds : List DV} {vs : List Value} {A : Env}, hasShs ks = false → KRels H R B true L nm j ks ds vs A → KRels H R' B true L nm j ks ds vs A
  | [], _, _, _, _, _, _, _, h => by simpa only [KRels] using h
  | c :: cs, _, _, _, _, _, _, hk, h => by
    simp only [hasShs, Bool.or_eq_false_iff] at hk
    simp only [KRels] at h ⊢
    obtain ⟨v, vs', d1, d2, A1, A2, h1, h2, h3, h4, h5, h6⟩ := h
    exact ⟨v, vs', d1, d2, A1, A2, h1, h2, h3, h4, KRel.anyR c hk.1 h5, KRels.anyR cs hk.2 h6⟩
end
theorem KRelTs.anyR : ∀ (ks : List TVK) {L : Env} {nm : Nat → Nat} {j : Nat} {ds : List DV} {vs : List Value} {A : Env}, hasShVs ks = false → KRelTs H R B true L nm j ks ds vs A → KRelTs H R' B true L nm j ks ds vs A
  | [], _, _, _, _, _, _, _, h => by simpa only [KRelTs] using h
  | .one c :: cs, _, _, _, _, _, _, hk, h => by
    simp only [hasShVs, hasShV, Bool.or_eq_false_iff] at hk
    simp only [KRelTs] at h ⊢
    obtain ⟨v, vs', d1, d2, A1, A2, h1, h2, h3, h4, h5, h6⟩ := h
    exact ⟨v, vs', d1, d2, A1, A2, h1, h2, h3, h4, KRel.anyR c hk.1 h5, KRelTs.anyR cs hk.2 h6⟩
  | .agg kk :: cs, _, _, _, _, _, _, hk, h => by
    simp only [hasShVs, hasShV, Bool.or_eq_false_iff] at hk
    simp only [KRelTs] at h ⊢
    obtain ⟨v, vs', d1, d2, A1, A2, h1, h2, h3, h5, h6⟩ := h
    exact ⟨v, vs', d1, d2, A1, A2, h1, h2, h3, KRels.anyR kk hk.1 h5, KRelTs.anyR cs hk.2 h6⟩
  | .tup _ :: _, _, _, _, _, _, _, _, h => by simp only [KRelTs] at h
theorem KRelV.anyR {k : TVK} {L : Env} {nm : Nat → Nat} {ds : List DV} {v : Value} {A : Env} (hk : hasShV k = false) (h : KRelV H R B true L nm k ds v A) : KRelV H R' B true L nm k ds v A := by
  cases k with
  | one c => simp only [hasShV] at hk; simp only [KRelV] at h ⊢; exact ⟨h.1, KRel.anyR c hk h.2⟩
  | agg ks => simp only [hasShV] at hk; simp only [KRelV] at h ⊢; obtain ⟨arr, h1, h2⟩ := h; exact ⟨arr, h1, KRels.anyR ks hk h2⟩
  | tup ks => simp only [hasShV] at hk; simp only [KRelV] at h ⊢; obtain ⟨arr, h1, h2⟩ := h; exact ⟨arr, h1, KRelTs.anyR ks hk h2⟩
theorem KBx.anyR {bl : Nat → Nat} : ∀ {bx : List (Nat × List CK)} {ko : List (List CK)} {L : Env} {ds : List DV} {A : Env}, hasShB ko = false → KBx H R B true bl L (zipB bx ko) ds A → KBx H R' B true bl L (zipB bx ko) ds A
  | [], _, _, _, _, _, h => by simpa only [zipB, KBx] using h
  | _ :: _, [], _, _, _, _, h => by simpa only [zipB, KBx] using h
  | (m, _) :: rest, ks :: ko, _, _, _, hk, h => by
    simp only [hasShB, Bool.or_eq_false_iff] at hk
    simp only [zipB, KBx] at h ⊢
    obtain ⟨arr, ty, frz, d1, d2, A1, A2, h1, h2, h3, h4, h5, h6⟩ := h
    exact ⟨arr, ty, frz, d1, d2, A1, A2, h1, h2, h3, h4, KRels.anyR ks hk.1 h5, KBx.anyR hk.2 h6⟩
end
def Bof (bl : Nat → Nat) (m g : Nat) : Prop := bl m = g
def noB (_ _ : Nat) : Prop := False
structure Glob where
  n : Nat
  w : World
structure GOk (gl : Glob) (w : World) (F : Nat → Prop) : Prop where
  size : gl.n ≤ w.heap.size
  at_ : ∀ b, b < gl.n → ¬ F b ∧ hp w b = hp gl.w b
structure InOk (gl : Glob) (E : Entry) (w : World) (F R : Nat → Prop) (bl : Nat → Nat) (val : Nat → Value) (dB dA : List DV) (AB AA : Env) : Prop where
  kb : KBx (hp w) R (Bof bl) true bl [] E.bx dB AB
  kt : KTm (hp w) R (Bof bl) true val AB (gamOf 0 E.ins) dA AA
  nd : ((AB ++ AA).fps ++ E.bx.map fun p => bl p.1).Nodup
  own : ∀ b ∈ (AB ++ AA).fps ++ E.bx.map fun p => bl p.1, F b
  rd : ∀ b, R b → b < w.heap.size ∧ ¬ F b
  gl : GOk gl w F
structure OutOk (E : Entry) (w w' : World) (F R : Nat → Prop) (bl : Nat → Nat) (r : InterpA E.outC) (u : Value) : Prop where
  size : w.heap.size ≤ w'.heap.size
  same : ∀ b, b < w.heap.size → ¬ F b → hp w' b = hp w b
  os : w'.os = w.os
  tape : w'.tape = w.tape
  out : w'.output = w.output
  res : ∃ d1 A1 d2 A2, untyp E.outC r = d1 ++ d2 ∧ KRelV (hp w') R noB true [] (nmT 9000) E.outs d1 u A1 ∧ KBx (hp w') R noB true bl A1 (zipB E.bx E.bxo) d2 A2 ∧
    ((A1 ++ A2).fps ++ E.bx.map fun p => bl p.1).Nodup ∧ ∀ b ∈ (A1 ++ A2).fps, F b ∨ w.heap.size ≤ b
def Contract (P : Program) (gl : Glob) (E : Entry) (ds : List DV) (r : InterpA E.outC) : Prop :=
  ∀ (w : World) (F R : Nat → Prop) (bl : Nat → Nat) (args : Array Value) (dB dA : List DV) (AB AA : Env), ds = dB ++ dA → args.size = E.ins.length → InOk gl E w F R bl (fun i => args.getD i undef) dB dA AB AA →
    Calls P E.f args w fun
      | .returned u, w' => OutOk E w w' F R bl r u
      | _, _ => False
def entryOk (E : Entry) : Bool :=
  okVL true E.ins && (okB true E.bx && (okV false E.outs && (E.bxo.all (okKs false) && (decide ((E.bx.map (·.1)).Nodup) && Nat.beq E.bx.length E.bxo.length))))
end Go.Ev
namespace Go.Ev
section
variable {w0 w w' : World} {F R : Nat → Prop} {st st' : St} {θ : Asg} {β : Type} {y : β} {l : Log}
theorem alive_run : ∀ {lent : List Nat} {k : M β} {l : Log}, (Ev.alive lent k).run st = some (y, st', l) → (∀ n ∈ lent, (st.objs n).dat.isSome = true) ∧ ∃ l1, k.run st = some (y, st', l1)
  | [], k, l, h => ⟨by simp, l, h⟩
  | n :: r, k, l, h => by
    simp only [Ev.alive] at h
    obtain ⟨l1, h⟩ := M.ro_run h
    obtain ⟨hn, h⟩ := M.gd_run h
    obtain ⟨h1, h2⟩ := alive_run h
    refine ⟨fun m hm => ?_, h2⟩
    rcases List.mem_cons.1 hm with rfl | hm
    · exact hn
    · exact h1 m hm
theorem Inv.hide (hI : Inv w0 F R st θ w) {Fc : Nat → Prop} {Bb : Nat → Option (List Cell)}
    (hsz : w.heap.size ≤ w'.heap.size) (hos : w'.os = w.os) (htp : w'.tape = w.tape) (hout : w'.output = w.output)
    (hsame : ∀ g, g < w.heap.size → ¬ Fc g → hp w' g = hp w g) (hFc : ∀ g, Fc g → F g ∨ w0.heap.size ≤ g) (hRc : ∀ g, R g → ¬ Fc g) (hfp : ∀ k g, (st.objs k).dat.isSome = true → g ∈ θ.fp k → ¬ Fc g)
    (hB : ∀ b, (Bb b = st.boxes b ∧ ((st.boxes b).isSome = true → ¬ Fc (θ.bx b))) ∨
      ((st.boxes b).isSome = true ∧ ∃ arr ty frz, Bb b = some (List.replicate arr.size .undef) ∧ hp w' (θ.bx b) = some (.cells arr ty frz) ∧ unfz arr.size frz ∧ ∀ v ∈ arr.toList, one1 v = true)) :
    Inv w0 F R (st.bxd Bb) θ w' ∧ Step R st θ (hp w) (st.bxd Bb) θ (hp w') := by
  have hR : ∀ g, R g → hp w' g = hp w g := fun g hg => hsame g (Nat.lt_of_lt_of_le (hI.rd g hg).1 hI.size) (hRc g hg)
  have hO : ∀ k, (st.objs k).dat.isSome = true → ∀ g ∈ θ.fp k, hp w' g = hp w g := fun k hk g hg => hsame g (hI.owned_lt (.inr ⟨k, hk, hg⟩)) (hfp k g hk hg)
  have hdom : ∀ b, (Bb b).isSome = true → (st.boxes b).isSome = true := fun b hb => by
    rcases hB b with ⟨e, -⟩ | ⟨h, -⟩
    · rw [← e]; exact hb
    · exact h
  have s : Step R st θ (hp w) (st.bxd Bb) θ (hp w') := by
    refine ⟨hR, fun b hb => ⟨?_, rfl⟩, fun k => .inl ⟨rfl, fun hk => ⟨rfl, rfl, hO k hk⟩⟩⟩
    rcases hB b with ⟨e, -⟩ | ⟨h, arr, ty, frz, e, -⟩
    · show (Bb b).isSome = true
      rw [e]; exact hb
    · show (Bb b).isSome = true
      rw [e]; rfl
  refine ⟨hI.next s hsz hos htp hout (fun g hg e => Classical.byContradiction fun hn => e (hsame g hg fun hf => hn (hFc g hf))) ?_ (fun k d hd => .inl ⟨hd, rfl, rfl, hO k (Option.isSome_iff_exists.2 ⟨_, hd⟩)⟩)
    (fun b b' h1 h2 => hI.bb b b' (hdom b h1) (hdom b' h2)) (fun b k h1 => hI.bo b k (hdom b h1)) hI.oo ?_, s⟩
  · intro b cs hcs
    have hcs : Bb b = some cs := hcs
    rcases hB b with ⟨e, hn⟩ | ⟨h, arr, ty, frz, e, h1, h2, h3⟩
    · rw [e] at hcs
      exact .inl ⟨hcs, hsame _ (hI.owned_lt (.inl ⟨b, by simp [hcs], rfl⟩)) (hn (by simp [hcs]))⟩
    · rw [e] at hcs
      cases hcs
      refine .inr ⟨arr, ty, frz, h1, h2, ?_⟩
      have : ∀ vs : List Value, (∀ v ∈ vs, one1 v = true) → RelCs (hp w') R (st.bxd Bb) θ (List.replicate vs.length .undef) vs := by
        intro vs
        induction vs with
        | nil => intro _; simp [RelCs]
        | cons v vs ih =>
          intro hv
          simp only [List.length_cons, List.replicate_succ, RelCs]
          exact ⟨v, vs, rfl, ⟨by simp [RelC], hv v (by simp)⟩, ih (fun u hu => hv u (by simp [hu]))⟩
      have := this arr.toList h3
      rwa [Array.length_toList] at this
  · rintro g (⟨b, hb, rfl⟩ | ⟨k, hk, hg⟩)
    · exact hI.own _ (.inl ⟨b, hdom b hb, rfl⟩)
    · exact hI.own _ (.inr ⟨k, hk, hg⟩)
theorem UInv.any {B : Nat → Nat → Prop} {Bb : Nat → Option (List Cell)} {su : St} {L : Env} (h : UInv w0 F R B true Bb w su θ L) (L' : Env) : UInv w0 F R B true Bb w su θ L' := ⟨h.inv, by simp, h.bx⟩
theorem unBoxes_sound {bm : List (Nat × Nat)} {bl : Nat → Nat} : ∀ (bx : List (Nat × List CK)) (bxo : List (List CK)) {su st' : St} {θ : Asg} {Bb : Nat → Option (List Cell)} {L : Env} {ds rest : List DV} {A : Env} {k : M β} {l : Log}, UInv w0 F R noB true Bb w su θ L → KBx (hp w) R noB true bl L (zipB bx bxo) ds A → Free w0 F (su.bxd Bb) θ A.fps →
    (∀ p ∈ bx, ∀ b, look p.1 bm = some b → (Bb b).isSome = true ∧ θ.bx b = bl p.1) → (unBoxes bx bxo bm (ds ++ rest) k).run su = some (y, st', l) →
    ∃ su' θ' Bb' l1, k.run su' = some (y, st', l1) ∧ su'.tmps = su.tmps ∧ Inv w0 F R (su'.bxd Bb') θ' w ∧ Step R (su.bxd Bb) θ (hp w) (su'.bxd Bb') θ' (hp w) ∧ (∀ b, Bb b = su.boxes b → Bb' b = su'.boxes b) ∧ ∀ p ∈ bx, ∀ b, look p.1 bm = some b → Bb' b = su'.boxes b
  | [], [], su, st', θ, Bb, L, ds, rest, A, k, l, hu, hk, hf, hb, h => by
    simp only [unBoxes] at h
    exact ⟨su, θ, Bb, l, h, rfl, hu.inv, Step.refl _ _ _ _, fun _ h => h, by simp⟩
  | [], _ :: _, su, st', θ, Bb, L, ds, rest, A, k, l, hu, hk, hf, hb, h => by simp [unBoxes, M.run] at h
  | _ :: _, [], su, st', θ, Bb, L, ds, rest, A, k, l, hu, hk, hf, hb, h => by simp [unBoxes, M.run] at h
  | (m, k0) :: bx, ks :: bxo, su, st', θ, Bb, L, ds, rest, A, k, l, hu, hk, hf, hb, h => by
    simp only [zipB, KBx] at hk
    obtain ⟨arr, ty, frz, d1, d2, A1, A2, rfl, rfl, h1, h2, h3, h4⟩ := hk
    simp only [unBoxes] at h
    cases hlk : look m bm with
    | none => simp [hlk, M.run] at h
    | some b =>
      simp only [hlk, List.append_assoc] at h
      obtain ⟨A1', h3', hfp⟩ := KRels.ren ks h3 L (nmB b) 0
      rw [Env.fps_append, ← hfp, ← Env.fps_append] at hf
      obtain ⟨cs, su1, θ1, l1, h, b1, t1, u1, s1, r1, x1, o1⟩ := unCKs_sound ks hu h3' hf.left h
      obtain ⟨cs0, l2, hb0, h⟩ := M.wb_run h
      obtain ⟨hbs, hbl⟩ := hb (m, k0) (by simp) b hlk
      obtain ⟨c0, hc0⟩ := Option.isSome_iff_exists.1 hbs
      obtain ⟨i1, i2⟩ := u1.inv.setBox (b := b) (cs0 := c0) (cs := cs) (arr := arr) (ty := ty) (frz := frz) (w' := w) hc0 rfl rfl rfl rfl (by rw [x1, hbl]; exact h1) h2 (fun _ _ => rfl) r1
      have hf2 := hf.split (A1 := A1') (A2 := A2) (st1 := su1.bxd Bb) (θ1 := θ1) o1
      have hown : ∀ g, Owned ((su1.bxd Bb).bxd (upd Bb b (some cs))) θ1 g → Owned (su1.bxd Bb) θ1 g := by
        rintro g (⟨b', hb', e⟩ | hg)
        · by_cases e' : b' = b
          · subst e'; exact .inl ⟨b', by show (Bb b').isSome = true; rw [hc0]; rfl, e⟩
          · have hb2 : (upd Bb b (some cs) b').isSome = true := hb'
            rw [upd_ne _ _ e'] at hb2
            exact .inl ⟨b', hb2, e⟩
        · exact .inr hg
      have u2 : UInv w0 F R noB true (upd Bb b (some cs)) w { su1 with boxes := upd su1.boxes b (some cs) } θ1 (L ++ A1) := ⟨i1, by simp, fun m g hm => hm.elim⟩
      obtain ⟨su2, θ2, Bb2, l3, h, t2, j1, j2, j3, j4⟩ := unBoxes_sound bx bxo u2 h4 ⟨hf2.nodup, fun g hg => ⟨fun ho => (hf2.free g hg).1 (hown g ho), (hf2.free g hg).2⟩⟩ (fun p hp b' hb' => by
        obtain ⟨q1, q2⟩ := hb p (by simp [hp]) b' hb'
        refine ⟨?_, by rw [x1]; exact q2⟩
        by_cases e : b' = b
        · subst e; simp [upd_same]
        · rw [upd_ne _ _ e]; exact q1) h
      refine ⟨su2, θ2, Bb2, l3, h, t2.trans t1, j1, (s1.trans i2).trans j2, fun b' hb' => j3 b' ?_, fun p hp b' hb' => ?_⟩
      · by_cases e : b' = b
        · subst e; simp [upd_same]
        · simp only [upd_ne _ _ e]; rw [hb', b1]
      · rcases List.mem_cons.1 hp with rfl | hp
        · have : b' = b := by
            have e : look m bm = some b' := hb'
            rw [hlk] at e
            exact (Option.some.inj e).symm
          subst this
          exact j3 b' (by simp [upd_same])
        · exact j4 p hp b' hb'
end
end Go.Ev
namespace Go.Ev
section
variable {P : Program} {w0 w : World} {F R : Nat → Prop} {st st' : St} {θ : Asg} {l : Log}
theorem KBx.blocks {H : Heap} {R : Nat → Prop} {B : Nat → Nat → Prop} {nal : Bool} {bl : Nat → Nat} : ∀ {bx : List (Nat × List CK)} {ko : List (List CK)} {L : Env} {ds : List DV} {A : Env}, bx.length = ko.length → KBx H R B nal bl L (zipB bx ko) ds A →
    ∀ p ∈ bx, ∃ arr ty frz, H (bl p.1) = some (.cells arr ty frz) ∧ unfz arr.size frz ∧ ∀ v ∈ arr.toList, one1 v = true
  | [], _, _, _, _, _, _ => by simp
  | (m, k0) :: bx, [], _, _, _, hl, _ => by simp at hl
  | (m, k0) :: bx, ks :: ko, _, _, _, hl, h => by
    simp only [zipB, KBx] at h
    obtain ⟨arr, ty, frz, d1, d2, A1, A2, -, -, h1, h2, h3, h4⟩ := h
    intro p hp
    rcases List.mem_cons.1 hp with rfl | hp
    · refine ⟨arr, ty, frz, h1, h2, ?_⟩
      have : ∀ (ks : List CK) (L : Env) (j : Nat) (ds : List DV) (vs : List Value) (A : Env), KRels H R B nal L (nmB m) j ks ds vs A → ∀ v ∈ vs, one1 v = true := by
        intro ks
        induction ks with
        | nil => intro L j ds vs A h v hv; simp only [KRels] at h; rw [h.2.1] at hv; cases hv
        | cons c cs ih =>
          intro L j ds vs A h v hv
          simp only [KRels] at h
          obtain ⟨v0, vs', d1, d2, A1, A2, -, rfl, -, h0, -, h6⟩ := h
          rcases List.mem_cons.1 hv with rfl | hv
          · exact h0
          · exact ih _ _ _ _ _ h6 v hv
      exact this _ _ _ _ _ _ h3
    · exact KBx.blocks (by simpa using hl) h4 p hp
theorem callM_sound {tab : Nat → Entry} {cands : FuncId → List Nat} {D : (e : Nat) → List DV → Option (InterpA (tab e).outC)} {f : FuncId} {tvs : List TV} {d : Nat} {v : TV} {vals : Array Value}
    {gl : Glob} (hgl : GOk gl w0 F) (hD : ∀ e ds r, D e ds = some r → Contract P gl (tab e) ds r) (hE : ∀ e, entryOk (tab e) = true) (hI : Inv w0 F R st θ w) (hv : ∀ i c, tvs[i]? = some c → RelV (hp w) R st θ c (vals.getD i undef)) (hlen : tvs.length = vals.size)
    (h : (callM tab cands D f tvs d).run st = some (v, st', l)) :
    Calls P f vals w fun
      | .returned u, w' => ∃ θ', Inv w0 F R st' θ' w' ∧ Step R st θ (hp w) st' θ' (hp w') ∧ RelV (hp w') R st' θ' v u
      | _, _ => False := by
  unfold callM at h
  split at h
  · simp [M.run] at h
  rename_i e he
  have hok := hE e
  simp only [entryOk, Bool.and_eq_true, List.all_eq_true] at hok
  obtain ⟨ok1, ok2, ok3, ok4, ok5, ok6⟩ := hok
  have ok5 : ((tab e).bx.map (·.1)).Nodup := of_decide_eq_true ok5
  have ok6 := Nat.eq_of_beq_eq_true ok6
  obtain ⟨hf, h⟩ := M.gd_run h
  have hf := Nat.eq_of_beq_eq_true hf
  have c0 : CInv st θ ⟨[], [], [], true, []⟩ [] := ⟨fun m n v wv h => by simp [inUsed] at h, fun m b h => by simp [look] at h, fun m m' b h => by simp [look] at h⟩
  obtain ⟨s1, sc1, AA, dA, l1, h, tk1, e1, x1, c1, r1, hargs⟩ := confArgs_sound hI (fun i => vals.getD i undef) (tab e).ins (t := 0) (Took.refl hI) c0 (fun i c hi => by simpa using hv i c hi) h
  obtain ⟨s2, sc2, AB, dB, l2, h, tk2, e2, x2, c2, r2, hbm⟩ := confBoxes_sound hI (tab e).bx (s := { s1 with dv := [] }) tk1 ⟨c1.used, c1.bm, c1.inj⟩ h
  obtain ⟨hlent, h⟩ := M.gd_run h
  obtain ⟨hal, l3, h⟩ := alive_run h
  obtain ⟨r, hr, h⟩ := M.opt_run h
  simp only [List.append_nil] at e1 e2
  rw [e1, e2, revApp_eq, revApp_eq, List.reverse_reverse, List.reverse_reverse, List.append_nil] at hr
  simp only [List.nil_append] at tk2 c2 r2
  have x2' : CExt s1 s2 := ⟨x2.bm, x2.lent, x2.lend, x2.nol⟩
  let Fc : Nat → Prop := fun b => b ∈ AA.fps ++ AB.fps ∨ ∃ p ∈ (tab e).bx, b = blOf θ s2.bm p.1
  have hpass : ∀ p ∈ (tab e).bx, ∃ b, look p.1 s2.bm = some b ∧ (sc2.boxes b).isSome = true ∧ blOf θ s2.bm p.1 = θ.bx b := fun p hp => by
    obtain ⟨b, hb, hs⟩ := hbm p hp
    exact ⟨b, hb, by rw [tk2.boxes]; exact hs, by simp [blOf, hb]⟩
  have hFO : ∀ b, Fc b → Owned st θ b := fun b hb => by
    rcases hb with hb | ⟨p, hp, rfl⟩
    · exact tk2.was b hb
    · obtain ⟨b', h1, h2, h3⟩ := hpass p hp
      rw [h3]
      exact tk2.owned (.inl ⟨b', h2, rfl⟩)
  have hFc : ∀ b, Fc b → F b ∨ w0.heap.size ≤ b := fun b hb => hI.own b (hFO b hb)
  have hFcR : ∀ b, R b → ¬ Fc b := fun b hb hf => hI.notR (hFO b hf) hb
  have hFcfp : ∀ k g, (sc2.objs k).dat.isSome = true → g ∈ θ.fp k → ¬ Fc g := fun k g hk hg hf => by
    rcases hf with hf | ⟨p, hp, rfl⟩
    · exact tk2.free g hf (.inr ⟨k, hk, hg⟩)
    · obtain ⟨b', h1, h2, h3⟩ := hpass p hp
      rw [h3] at hg
      exact tk2.inv.bo b' k h2 hk hg
  have hin : InOk gl (tab e) w Fc (Rl R θ s2.lent) (blOf θ s2.bm) (fun i => vals.getD i undef) dB dA AB AA := by
    have hB : (true = true → ∀ m g, Bl θ s2.bm m g → Bof (blOf θ s2.bm) m g) := fun _ m g ⟨b, h1, h2⟩ => by simp [Bof, blOf, h1, h2]
    have hgl' : GOk gl w Fc := ⟨Nat.le_trans hgl.size hI.size, fun b hb => by
      obtain ⟨g1, g2⟩ := hgl.at_ b hb
      have hlt : b < w0.heap.size := Nat.lt_of_lt_of_le hb hgl.size
      refine ⟨fun hf => ?_, (hI.same b hlt g1).trans g2⟩
      rcases hFc b hf with h | h
      · exact g1 h
      · omega⟩
    refine ⟨r2.up hB ok2, KTm.up hB ok1 (r1.mono x2'.rl x2'.bl), ?_, fun b hb => ?_, fun b hb => ?_, hgl'⟩
    · rw [Env.fps_append]
      refine List.nodup_append.2 ⟨List.perm_append_comm.nodup_iff.1 tk2.nodup, ?_, fun b hb c hc e => ?_⟩
      · rw [List.nodup_iff_pairwise_ne, List.pairwise_map]
        rw [List.nodup_iff_pairwise_ne, List.pairwise_map] at ok5
        refine List.Pairwise.imp_of_mem ?_ ok5
        intro p q hp hq hne heq
        obtain ⟨b1, h1, h2, h3⟩ := hpass p hp
        obtain ⟨b2, h4, h5, h6⟩ := hpass q hq
        rw [h3, h6] at heq
        have := tk2.inv.bb b1 b2 h2 h5 heq
        subst this
        exact hne (c2.inj _ _ _ h1 h4)
      · subst e
        obtain ⟨p, hp, rfl⟩ := List.mem_map.1 hc
        obtain ⟨b', h1, h2, h3⟩ := hpass p hp
        refine tk2.free _ (by rw [List.mem_append] at hb ⊢; exact hb.symm) (.inl ⟨b', h2, h3.symm⟩)
    · rcases List.mem_append.1 hb with hb | hb
      · rw [Env.fps_append, List.mem_append] at hb
        exact .inl (List.mem_append.2 hb.symm)
      · obtain ⟨p, hp, rfl⟩ := List.mem_map.1 hb
        exact .inr ⟨p, hp, rfl⟩
    · rcases hb with hb | ⟨n, hn, hb⟩
      · exact ⟨Nat.lt_of_lt_of_le (hI.rd b hb).1 hI.size, hFcR b hb⟩
      · exact ⟨tk2.inv.owned_lt (.inr ⟨n, hal n hn, hb⟩), hFcfp n b (hal n hn) hb⟩
  have hcall := hD e _ r hr w Fc (Rl R θ s2.lent) (blOf θ s2.bm) vals dB dA AB AA rfl (by rw [← hargs, hlen]) hin
  rw [hf] at hcall
  refine hcall.mono fun en w' ho => ?_
  cases en with
  | panicked _ => exact ho
  | outgrown => exact ho
  | returned u =>
    obtain ⟨o1, o2, o3, o4, o5, d1, A1, d2, A2, hun, k1, k2, hnd, hown⟩ := ho
    have k12 : KRelV (hp w') R noB true [] (nmT 9000) (tab e).outs d1 u A1 ∧ KBx (hp w') R noB true (blOf θ s2.bm) A1 (zipB (tab e).bx (tab e).bxo) d2 A2 := by
      rw [Bool.or_eq_true] at hlent
      rcases hlent with hl | hl
      · have hl : s2.lent = [] := by simpa using hl
        have hRl : ∀ b, Rl R θ s2.lent b → R b := fun b hb => by
          rw [hl] at hb
          exact hb.resolve_right (by rintro ⟨n, hn, -⟩; cases hn)
        exact ⟨k1.mono hRl (fun _ _ h => h), k2.mono hRl (fun _ _ h => h)⟩
      · rw [Bool.not_eq_true', Bool.or_eq_false_iff] at hl
        exact ⟨k1.anyR hl.1, k2.anyR hl.2⟩
    obtain ⟨k1, k2⟩ := k12
    let ps : List Nat := (tab e).bx.filterMap fun p => look p.1 s2.bm
    let Bb : Nat → Option (List Cell) := fun b => if b ∈ ps then (match hp w' (θ.bx b) with | some (.cells arr _ _) => some (List.replicate arr.size .undef) | _ => none) else sc2.boxes b
    have hblk := KBx.blocks ok6 k2
    have hB : ∀ b, (Bb b = sc2.boxes b ∧ b ∉ ps) ∨ ((sc2.boxes b).isSome = true ∧ ∃ arr ty frz, Bb b = some (List.replicate arr.size .undef) ∧ hp w' (θ.bx b) = some (.cells arr ty frz) ∧ unfz arr.size frz ∧ ∀ v ∈ arr.toList, one1 v = true) := by
      intro b
      by_cases hb : b ∈ ps
      · right
        obtain ⟨p, hp, hlk⟩ := List.mem_filterMap.1 hb
        obtain ⟨b', h1, h2, h3⟩ := hpass p hp
        rw [hlk] at h1
        cases h1
        obtain ⟨arr, ty, frz, j1, j2, j3⟩ := hblk p hp
        rw [h3] at j1
        exact ⟨h2, arr, ty, frz, by simp [Bb, hb, j1], j1, j2, j3⟩
      · left; exact ⟨by simp [Bb, hb], hb⟩
    have hhide := tk2.inv.hide (w' := w') (Fc := Fc) (Bb := Bb) o1 o3 o4 o5 o2 hFc hFcR hFcfp (fun b => (hB b).imp (fun ⟨h1, h2⟩ => ⟨h1, fun hs hf => by
      rcases hf with hf | ⟨p, hp, he⟩
      · exact tk2.free _ hf (.inl ⟨b, hs, rfl⟩)
      · obtain ⟨b', j1, j2, j3⟩ := hpass p hp
        rw [j3] at he
        have := tk2.inv.bb b b' hs j2 he
        subst this
        exact h2 (List.mem_filterMap.2 ⟨p, hp, j1⟩)⟩) id)
    obtain ⟨i1, i2⟩ := hhide
    rw [hun] at h
    obtain ⟨A1', k1', hA1⟩ := k1.ren [] (nmT d)
    have hown' : ∀ g, Owned (sc2.bxd Bb) θ g → Owned sc2 θ g := by
      rintro g (⟨b, hb, e⟩ | hg)
      · have hb : (Bb b).isSome = true := hb
        rcases hB b with ⟨h1, -⟩ | ⟨h1, -⟩
        · exact .inl ⟨b, by rw [← h1]; exact hb, e⟩
        · exact .inl ⟨b, h1, e⟩
      · exact .inr hg
    have hfree : Free w0 F (sc2.bxd Bb) θ (Env.fps (A1 ++ A2)) := by
      refine ⟨(List.nodup_append.1 hnd).1, fun g hg => ⟨fun ho => ?_, ?_⟩⟩
      · have ho := hown' g ho
        rcases hown g hg with hf | hge
        · rcases hf with hf | ⟨p, hp, rfl⟩
          · exact tk2.free g hf ho
          · exact (List.nodup_append.1 hnd).2.2 _ hg _ (List.mem_map.2 ⟨p, hp, rfl⟩) rfl
        · have := tk2.inv.owned_lt ho
          omega
      · rcases hown g hg with hf | hge
        · exact hFc g hf
        · exact .inr (Nat.le_trans tk2.inv.size hge)
    have hfree1 : Free w0 F (sc2.bxd Bb) θ (Env.fps (A1' ++ A2)) := by
      rw [Env.fps_append, hA1, ← Env.fps_append]; exact hfree
    have u0 : UInv w0 F R noB true Bb w' sc2 θ [] := ⟨i1, by simp, fun m g hm => hm.elim⟩
    obtain ⟨x, su1, θ1, l4, h, b1, t1, u1, s1', r1', xb, o1'⟩ := unTV_sound (tab e).outs u0 k1' hfree1.left h
    have hfree2 := hfree1.split (st1 := su1.bxd Bb) (θ1 := θ1) o1'
    rw [← List.append_nil d2] at h
    obtain ⟨su2, θ2, Bb2, l5, h, t2, j1, j2, j3, j4⟩ := unBoxes_sound (bl := blOf θ s2.bm) (tab e).bx (tab e).bxo (u1.any A1) k2 hfree2 (fun p hp b hlk => by
      obtain ⟨b', q1, q2, q3⟩ := hpass p hp
      rw [hlk] at q1
      cases q1
      refine ⟨?_, by rw [xb, q3]⟩
      rcases hB b with ⟨h1, -⟩ | ⟨-, arr, ty, frz, h1, -⟩
      · rw [h1]; exact q2
      · rw [h1]; rfl) h
    obtain ⟨rfl, rfl⟩ := M.ret_run h
    have hBb : Bb2 = st'.boxes := by
      funext b
      by_cases hb : b ∈ ps
      · obtain ⟨p, hp, hlk⟩ := List.mem_filterMap.1 hb
        exact j4 p hp b hlk
      · exact j3 b (by rw [b1]; simp [Bb, hb])
    have hbx : st'.bxd Bb2 = st' := by rw [hBb]; rfl
    rw [hbx] at j1 j2
    exact ⟨θ2, j1, ((tk2.step.trans i2).trans s1').trans j2, RelV.step j2 _ _ r1'⟩
end
end Go.Ev
namespace Go.Ev
def OpOk (P : Program) (w0 : World) (F R : Nat → Prop) (st : St) (θ : Asg) (w : World) (o : Oper) (a : Act) (v : TV) (st' : St) : Prop :=
  ∀ (K : Act → World → Prop) (Q : Exit → Act → World → Prop), (∀ u w' θ', Inv w0 F R st' θ' w' → Step R st θ (hp w) st' θ' (hp w') → RelV (hp w') R st' θ' v u → K (a.put o.dst u) w') → o.wp P a w K Q
section
variable {P : Program} {T : TypeId → Option TyI} {w0 w : World} {F R : Nat → Prop} {st st' : St} {θ : Asg} {a : Act} {o : Oper} {v : TV} {l : Log}
theorem Done.ok (h : Done P w0 F R st θ w o a v st') : OpOk P w0 F R st θ w o a v st' := by
  intro K Q hK
  obtain ⟨u, w', θ', hr, h1, h2, h3⟩ := h.out
  unfold Oper.wp
  rcases hr with hr | ⟨hr, rfl⟩
  · rw [hr, Oper.upon_value]
    exact hK u w' θ' h1 h2 h3
  · rw [hr, Oper.upon_skip]
    exact hK _ w' θ' h1 h2 h3
theorem call_ok {f : FuncId} {vals : Array Value} (he : (execOp a.eval o).run P w = .ok (.enter f vals) w)
    (hc : Calls P f vals w fun
      | .returned u, w' => ∃ θ', Inv w0 F R st' θ' w' ∧ Step R st θ (hp w) st' θ' (hp w') ∧ RelV (hp w') R st' θ' v u
      | _, _ => False) : OpOk P w0 F R st θ w o a v st' := by
  intro K Q hK
  unfold Oper.wp
  rw [he, Oper.upon_enter]
  refine hc.mono fun e w' h => ?_
  cases e with
  | returned u => obtain ⟨θ', h1, h2, h3⟩ := h; exact hK u w' θ' h1 h2 h3
  | panicked _ => exact h.elim
  | outgrown => exact h.elim
def Enters (P : Program) (f : FuncId) : Prop := ∃ fn, P.funcs[f]? = some fn ∧ (fn.name == "runtime.NumGoroutine") = false ∧ fn.body.isNone = false
theorem callFunc_run {f : FuncId} (h : Enters P f) (vals : Array Value) : (callFunc f vals).run P w = .ok (.enter f vals) w := by
  obtain ⟨fn, h1, h2, h3⟩ := h
  have h2' : ¬ fn.name = "runtime.NumGoroutine" := by simpa using h2
  cases hb : fn.body with
  | none => simp [hb] at h3
  | some b => simp [callFunc, h1, h2', hb]
theorem RelCs.vs {H : Heap} : ∀ {cs : List Cell} {vs : List Value}, RelCs H R st θ cs vs → RelVs H R st θ (cs.map .one) vs
  | [], vs, h => by simp only [RelCs] at h; simp [RelVs, h]
  | c :: cs, vs, h => by
    simp only [RelCs] at h
    obtain ⟨v, vs', rfl, h1, h2⟩ := h
    simp only [List.map_cons, RelVs]
    exact ⟨v, vs', rfl, ⟨h1.1, .inr h1.2⟩, h2.vs⟩
theorem RelVs.append {H : Heap} : ∀ {cs ds : List TV} {vs us : List Value}, RelVs H R st θ cs vs → RelVs H R st θ ds us → RelVs H R st θ (cs ++ ds) (vs ++ us)
  | [], ds, vs, us, h, k => by simp only [RelVs] at h; subst h; simpa using k
  | c :: cs, ds, vs, us, h, k => by
    simp only [RelVs] at h
    obtain ⟨v, vs', rfl, h1, h2⟩ := h
    simp only [List.cons_append, RelVs]
    exact ⟨v, vs' ++ us, rfl, h1, h2.append k⟩
theorem RelVs.length {H : Heap} : ∀ {cs : List TV} {vs : List Value}, RelVs H R st θ cs vs → cs.length = vs.length
  | [], vs, h => by simp only [RelVs] at h; simp [h]
  | c :: cs, vs, h => by
    simp only [RelVs] at h
    obtain ⟨v, vs', rfl, -, h2⟩ := h
    simp [h2.length]
theorem opM_sound {tab : Nat → Entry} {cands : FuncId → List Nat} {D : (e : Nat) → List DV → Option (InterpA (tab e).outC)} (hok : Ok P T) {gl : Glob} (hgl : GOk gl w0 F) (hD : ∀ e ds r, D e ds = some r → Contract P gl (tab e) ds r) (hE : ∀ e, entryOk (tab e) = true) (hF : ∀ e, Enters P (tab e).f)
    (hI : Inv w0 F R st θ w) (hT : Tm (hp w) R st θ a) (h : (opM T (callM tab cands D) (evalSt st) o).run st = some (v, st', l)) : OpOk P w0 F R st θ w o a v st' := by
  have callv : ∀ (f : FuncId) (tvs : List TV) (vals : List Value) (d : Nat), RelVs (hp w) R st θ tvs vals → (execOp a.eval o).run P w = (callFunc f vals.toArray).run P w → (callM tab cands D f tvs d).run st = some (v, st', l) → OpOk P w0 F R st θ w o a v st' := by
    intro f tvs vals d hr he h
    have hen : Enters P f := by
      have h' := h
      unfold callM at h'
      split at h'
      · simp [M.run] at h'
      · rename_i e _
        obtain ⟨hf, -⟩ := M.gd_run h'
        rw [← Nat.eq_of_beq_eq_true hf]
        exact hF e
    refine call_ok (f := f) (vals := vals.toArray) (by rw [he, callFunc_run hen]) (callM_sound hgl hD hE hI (fun i c hi => ?_) (by simpa using hr.length) h)
    obtain ⟨u, hu, hru⟩ := hr.get hi
    have : vals.toArray.getD i undef = u := by simp [Array.getD_eq_getD_getElem?, hu]
    rw [this]
    exact hru
  cases hop : o.op with
  | move x => simp only [opM, hop] at h; exact (op_move hI hT (.inl hop) h).ok
  | assign x => simp only [opM, hop] at h; exact (op_move hI hT (.inr hop) h).ok
  | pick c x y =>
    simp only [opM, hop] at h
    split at h
    · rename_i b hb; exact (op_pick hI hT hop hb h).ok
    · simp [M.run] at h
  | alloc t =>
    simp only [opM, hop] at h
    split at h
    · rename_i i hi; exact (op_alloc hok hI hop hi h).ok
    · simp [M.run] at h
  | box t x =>
    simp only [opM, hop] at h
    split at h
    · exact (op_box hI hT hop h).ok
    · simp [M.run] at h
  | build t parts =>
    simp only [opM, hop] at h
    split at h
    · rename_i fs sz by' z c q hi; exact (op_build hok hI hT hop hi rfl h).ok
    · simp [M.run] at h
  | buildSlice t len parts =>
    simp only [opM, hop] at h
    split at h
    · rename_i c hc; exact (op_buildSlice hok hI hT hop hc h).ok
    · simp [M.run] at h
  | load t x =>
    simp only [opM, hop] at h
    split at h
    · rename_i i hi; exact (op_load hok hI hT hop hi h).ok
    · simp [M.run] at h
  | store t x y =>
    simp only [opM, hop] at h
    split at h
    · rename_i i hi; exact (op_store hok hI hT hop hi h).ok
    · simp [M.run] at h
  | nilCheck x =>
    simp only [opM, hop] at h
    split at h
    all_goals first
      | (rename_i hx; exact (op_nilCheck hI hT hop hx trivial h).ok)
      | simp [M.run] at h
  | binOp op t x y t' =>
    simp only [opM, hop] at h
    exact (op_bin hok hI hT hop h).ok
  | unOp op t x =>
    simp only [opM, hop] at h
    split at h
    · rename_i hx; exact (op_not hI hT hop hx h).ok
    · rename_i hx; exact (op_neg hI hT hop hx h).ok
    · simp [M.run] at h
  | convert s t x =>
    simp only [opM, hop] at h
    split at h
    · rename_i h1 h2 h3; exact (op_convInt hok hI hT hop h1 h2 h3 h).ok
    · rename_i h1 h2 h3
      split at h
      · rename_i c hc; exact (op_convBytes hok hI hT hop h1 hc h3 h).ok
      · simp [M.run] at h
    · rename_i h1 h2 h3; exact (op_convBack hok hI hT hop h2 h3 h).ok
    · rename_i h1 h2 h3; exact (op_convStr hok hI hT hop h1 h2 h3 h).ok
    · simp [M.run] at h
  | makeFunc fn x y =>
    cases fn with
    | func f =>
      simp only [opM, hop] at h
      split at h
      · rename_i h1 h2; exact (op_makeFunc hI hT hop h1 h2 h).ok
      · simp [M.run] at h
    | _ => simp [opM, hop, M.run] at h
  | makeSlice t x y =>
    simp only [opM, hop] at h
    split at h
    · rename_i h1 h2 h3; exact (op_makeSlice hok hI hT hop h1 h2 h3 h).ok
    · simp [M.run] at h
  | slice t x lo hi mx =>
    cases mx with
    | some _ => simp [opM, hop, M.run] at h
    | none => simp only [opM, hop] at h; exact (op_slice hok hI hT hop h).ok
  | fieldAddr s x f =>
    simp only [opM, hop] at h
    split at h
    · rename_i hi
      split at h
      · rename_i hf; exact (op_fieldAddr hok hI hT hop hi rfl hf h).ok
      · simp [M.run] at h
    · simp [M.run] at h
  | field s x f =>
    simp only [opM, hop] at h
    split at h
    · rename_i hi hx
      split at h
      · rename_i hf
        split at h
        · rename_i ti hti; exact (op_field hok hI hT hop hi rfl hf hti hx h).ok
        · simp [M.run] at h
      · simp [M.run] at h
    · simp [M.run] at h
  | indexAddr t x i => simp only [opM, hop] at h; exact (op_indexAddr hok hI hT hop h).ok
  | index t x i => simp only [opM, hop] at h; exact (op_index hok hI hT hop h).ok
  | extract x i =>
    simp only [opM, hop] at h
    split at h
    · rename_i vs hx
      split at h
      · rename_i y hy; exact (op_extract hI hT hop hx hy h).ok
      · simp [M.run] at h
    · simp [M.run] at h
  | call c =>
    simp only [opM, hop] at h
    split at h
    · rename_i hc
      split at h
      · rename_i h1 h2; exact (op_len hok hI hT hop hc h1 h2 h).ok
      · simp [M.run] at h
    · rename_i hc
      split at h
      · rename_i h1 h2
        split at h
        · rename_i ct hct; exact (op_append hok hI hT hop hc h1 h2 hct h).ok
        · simp [M.run] at h
      · simp [M.run] at h
    · rename_i hc
      split at h
      · rename_i h1
        split at h
        · rename_i h2 h3; exact (op_min hI hT hop hc h1 h2 h3 h).ok
        · simp [M.run] at h
      · simp [M.run] at h
    · rename_i hc
      split at h
      · rename_i h1
        split at h
        · rename_i h2 h3; exact (op_max hI hT hop hc h1 h2 h3 h).ok
        · simp [M.run] at h
      · simp [M.run] at h
    · rename_i f hc
      refine callv f _ (c.args.toList.map a.eval) _ (evals_rel hT _) ?_ h
      have hm : (c.args.toList.map a.eval).toArray = c.args.map a.eval := Array.ext' (by simp)
      rw [hm]
      simp [execOp, hop, resolve, hc, Act.eval, Deferred.ofValue, invoke]
    · rename_i g hnf hc
      split at h
      · rename_i f p q hx
        have hr := (eval_one hT hx (by simp)).1
        simp only [RelC] at hr
        obtain ⟨va, vb, e, h1, h2⟩ := hr
        refine callv f _ (va.toList ++ (c.args.toList.map a.eval ++ vb.toList)) _ (h1.vs.append ((evals_rel hT _).append h2.vs)) ?_ h
        have hm : (va.toList ++ (c.args.toList.map a.eval ++ vb.toList)).toArray = va ++ c.args.map a.eval ++ vb := Array.ext' (by simp)
        rw [hm]
        simp [execOp, hop, resolve, hc, e, Deferred.ofValue, invoke]
      · simp [M.run] at h
    · simp [M.run] at h
  | _ => simp [opM, hop, M.run] at h
end
end Go.Ev
namespace Go.Ev
def wantE (all : Array Oper) (o : Oper) (st : St) : Option Bool :=
  match o.guard with
  | none => some true
  | some (j, want) => match (all[j]?).bind (·.dst) with
    | some t => match st.tmps t with
      | .one (.b x) => some (x == want)
      | .tup [] => some false
      | _ => none
    | none => none
def estep (opf : (Operand → TV) → Oper → M TV) (all : Array Oper) (o : Oper) (st : St) : Option (St × Log) :=
  match wantE all o st with
  | some true => ((opf (evalSt st) o).run st).map fun r => (r.2.1.put o.dst r.1, r.2.2)
  | some false => some (st.put o.dst (.tup []), .none)
  | none => none
def ESeq (opf : (Operand → TV) → Oper → M TV) (all : Array Oper) : List Oper → St → List Log → St → Prop
  | [], st, ls, st' => ls = [] ∧ st' = st
  | o :: rest, st, ls, st' => ∃ st1 l ls1, ls = l :: ls1 ∧ estep opf all o st = some (st1, l) ∧ ESeq opf all rest st1 ls1 st'
theorem upd_id {α : Type} (f : Nat → α) (k : Nat) : upd f k (f k) = f := by
  funext i
  by_cases h : i = k
  · subst h; rw [upd_same]
  · rw [upd_ne _ _ h]
theorem know_eq {st : St} {t : Nat} {x : Bool} (h : st.tmps t = .one (.b x)) : know st t x = st := by
  unfold know
  rw [← h, upd_id]
section
variable {R' : Type} {opf : (Operand → TV) → Oper → M TV} {all : Array Oper}
theorem guardGo_run {o : Oper} {st : St} {yes no : St → Option R'} {r : R'} (h : guardGo all o st yes no = some r) :
    (wantE all o st = some true ∧ yes st = some r) ∨ (wantE all o st = some false ∧ no st = some r) := by
  unfold guardGo at h
  split at h
  · rename_i hg
    exact .inl ⟨by simp [wantE, hg], h⟩
  · rename_i j want hg
    split at h
    · rename_i t ht
      split at h
      · rename_i x hx
        have hw : wantE all o st = some (x == want) := by simp [wantE, hg, ht, hx]
        cases x <;> cases want <;> simp only [cond_true, cond_false] at h <;> rw [know_eq hx] at h <;> rw [hw]
        · exact .inl ⟨rfl, h⟩
        · exact .inr ⟨rfl, h⟩
        · exact .inr ⟨rfl, h⟩
        · exact .inl ⟨rfl, h⟩
      · rename_i hx
        exact .inr ⟨by simp [wantE, hg, ht, hx], h⟩
      · cases h
    · cases h
def subs : List Log → List Log → Prop
  | [], [] => True
  | l :: ls, l' :: ls' => l.sub l' ∧ subs ls ls'
  | _, _ => False
theorem regionGo_run : ∀ (rest : List Oper) {st : St} {acc : List Log} {K : St → List Log → Option R'} {r : R'}, regionGo opf all rest st acc K = some r →
    ∃ st' ls ls', ESeq opf all rest st ls st' ∧ subs ls ls' ∧ K st' (ls'.reverse ++ acc) = some r
  | [], st, acc, K, r, h => by
    simp only [regionGo] at h
    exact ⟨st, [], [], ⟨rfl, rfl⟩, trivial, h⟩
  | o :: rest, st, acc, K, r, h => by
    simp only [regionGo] at h
    rcases guardGo_run h with ⟨hw, h⟩ | ⟨hw, h⟩
    · obtain ⟨v, st1, l0, l', hrun, h, -, hs⟩ := M.go_run _ _ _ _ _ h
      obtain ⟨st', ls, ls', h1, h2, h3⟩ := regionGo_run rest h
      refine ⟨st', l0 :: ls, l' :: ls', ⟨_, l0, ls, rfl, ?_, h1⟩, ⟨hs, h2⟩, by simpa using h3⟩
      simp [estep, hw, hrun]
    · obtain ⟨st', ls, ls', h1, h2, h3⟩ := regionGo_run rest h
      refine ⟨st', .none :: ls, .none :: ls', ⟨_, .none, ls, rfl, ?_, h1⟩, ⟨⟨fun _ h => h, fun _ h => h⟩, h2⟩, by simpa using h3⟩
      simp [estep, hw]
end
section
variable {P : Program} {w0 w : World} {F R : Nat → Prop} {st st' : St} {θ : Asg} {a : Act} {opf : (Operand → TV) → Oper → M TV} {all : Array Oper} {Q : Exit → Act → World → Prop}
theorem Tm.step {H H' : Heap} {st' : St} {θ' : Asg} (s : Step R st θ H st' θ' H') (ht : st'.tmps = st.tmps) (h : Tm H R st θ a) : Tm H' R st' θ' a := fun t => by
  rw [ht]
  exact RelV.step s _ _ (h t)
theorem bxs_put (st : St) (d : Option Nat) (v : TV) : (st.put d v).boxes = st.boxes ∧ (st.put d v).objs = st.objs := by cases d <;> exact ⟨rfl, rfl⟩
theorem step_put (H : Heap) (st : St) (θ : Asg) (d : Option Nat) (x : TV) : Step R st θ H (st.put d x) θ H :=
  ⟨fun _ _ => rfl, fun b hb => ⟨by rw [(bxs_put st d x).1]; exact hb, rfl⟩, fun k => .inl ⟨by rw [(bxs_put st d x).2], fun _ => ⟨rfl, rfl, fun _ _ => rfl⟩⟩⟩
theorem Inv.put (h : Inv w0 F R st θ w) (d : Option Nat) (x : TV) : Inv w0 F R (st.put d x) θ w := by
  have e := bxs_put st d x
  refine h.next (step_put (hp w) st θ d x) (Nat.le_refl _) rfl rfl rfl (fun _ _ e => absurd rfl e) (fun b cs hcs => .inl ⟨by rw [← e.1]; exact hcs, rfl⟩) (fun k dd hd => .inl ⟨by rw [← e.2]; exact hd, rfl, rfl, fun _ _ => rfl⟩) ?_ ?_ ?_ ?_
  · rw [e.1]; exact h.bb
  · rw [e.1, e.2]; exact h.bo
  · rw [e.2]; exact h.oo
  · rintro g (⟨b, hb, hg⟩ | ⟨k, hk, hg⟩)
    · rw [e.1] at hb; exact h.own g (.inl ⟨b, hb, hg⟩)
    · rw [e.2] at hk; exact h.own g (.inr ⟨k, hk, hg⟩)
theorem Tm.put {H : Heap} (h : Tm H R st θ a) {d : Option Nat} {x : TV} {u : Value} (hr : RelV H R st θ x u) (hd : ∀ t, d = some t → t < a.tmps.size) : Tm H R (st.put d x) θ (a.put d u) := by
  intro t
  refine RelV.step (step_put H st θ d x) _ _ ?_
  cases d with
  | none => exact h t
  | some d =>
    simp only [St.put, Act.put]
    by_cases e : t = d
    · subst e
      have := hd t rfl
      rw [upd_same, Array.getD_eq_getD_getElem?, Array.getElem?_setIfInBounds_self_of_lt this]
      exact hr
    · rw [upd_ne _ _ e, Array.getD_eq_getD_getElem?, Array.getElem?_setIfInBounds_ne (fun h => e h.symm), ← Array.getD_eq_getD_getElem?]
      exact h t
theorem yield_eq {H : Heap} (hT : Tm H R st θ a) {o : Oper} {x : Bool} (h : wantE all o st = some x) : Region.wanted o (yielded all a.tmps) = x := by
  unfold wantE at h
  split at h
  · rename_i hg
    cases h
    simp [Region.wanted, hg]
  · rename_i j want hg
    split at h
    · rename_i t ht
      split at h
      · rename_i b hb
        cases h
        have hr := hT t
        rw [hb] at hr
        simp only [RelV, RelC] at hr
        have hv := hr.1
        have hlt : a.tmps[t]? = some (.bool b) := by
          rw [Array.getD_eq_getD_getElem?] at hv
          cases hq : a.tmps[t]? with
          | none => rw [hq] at hv; simp [undef] at hv
          | some q => rw [hq] at hv; simp at hv; rw [hv]
        simp [Region.wanted, hg, yielded, ht, hlt]
      · rename_i hb
        cases h
        have hr := hT t
        rw [hb] at hr
        simp only [RelV, RelVs] at hr
        obtain ⟨arr, hv, ha⟩ := hr
        have hy : yielded all a.tmps j = none := by
          unfold yielded
          rw [ht]
          simp only [Option.bind_some]
          cases hq : a.tmps[t]? with
          | none => rfl
          | some q =>
            rw [Array.getD_eq_getD_getElem?, hq] at hv
            simp only [Option.getD_some] at hv
            rw [hv]
        simp [Region.wanted, hg, hy]
      · cases h
    · cases h
theorem relV_skip (H : Heap) (R : Nat → Prop) (st : St) (θ : Asg) : RelV H R st θ (.tup []) undef := by
  simp only [RelV, RelVs]
  exact ⟨#[], rfl, rfl⟩
theorem ops_wp (hop : ∀ {st st' : St} {θ : Asg} {w : World} {a : Act} {o : Oper} {v : TV} {l : Log}, Inv w0 F R st θ w → Tm (hp w) R st θ a → (opf (evalSt st) o).run st = some (v, st', l) → OpOk P w0 F R st θ w o a v st') {n : Nat} :
    ∀ (τ : List Nat) {ops : List Oper} {st : St} {ls : List Log} {θ : Asg} {w : World} {a : Act}, τ.map (all[·]?) = ops.map some → ESeq opf all ops st ls st' → Inv w0 F R st θ w → Tm (hp w) R st θ a → a.tmps.size = n → (∀ o ∈ ops, ∀ t, o.dst = some t → t < n) →
      (∀ θ' a' w', Inv w0 F R st' θ' w' → Step R st θ (hp w) st' θ' (hp w') → Tm (hp w') R st' θ' a' → a'.tmps.size = n → a'.defers = a.defers → Q .normal a' w') → wpOps P all Q τ a w
  | [], ops, st, ls, θ, w, a, hm, hs, hI, hT, hn, hd, hQ => by
    cases ops with
    | cons _ _ => simp at hm
    | nil =>
      obtain ⟨-, rfl⟩ := hs
      simp only [wpOps]
      exact hQ θ a w hI (Step.refl _ _ _ _) hT hn rfl
  | i :: τ, ops, st, ls, θ, w, a, hm, hs, hI, hT, hn, hd, hQ => by
    cases ops with
    | nil => simp at hm
    | cons o ops =>
      simp only [List.map_cons, List.cons.injEq] at hm
      obtain ⟨st1, l, ls1, rfl, he, hs⟩ := hs
      simp only [wpOps, hm.1]
      have hdo : ∀ t, o.dst = some t → t < a.tmps.size := fun t ht => by rw [hn]; exact hd o (by simp) t ht
      have hsz : ∀ u, (a.put o.dst u).tmps.size = n := fun u => by rw [← hn]; cases o.dst <;> simp [Act.put]
      have hdf : ∀ u, (a.put o.dst u).defers = a.defers := fun u => by cases o.dst <;> rfl
      unfold estep at he
      split at he
      · rename_i hw
        obtain ⟨⟨v, st0, l0⟩, hrun, he⟩ := Option.map_eq_some_iff.1 he
        simp only [Prod.mk.injEq] at he
        obtain ⟨rfl, rfl⟩ := he
        rw [if_pos (yield_eq hT hw)]
        left
        refine hop hI hT hrun _ _ fun u w' θ' h1 h2 h3 => ?_
        have hk := (M.run_keeps _ _ _ _ _ hrun).1
        have hT1 := (hT.step h2 hk).put h3 hdo
        refine ops_wp hop τ hm.2 hs (h1.put o.dst v) hT1 (hsz u) (fun o' ho' => hd o' (by simp [ho'])) fun θ2 a2 w2 j1 j2 j3 j4 j5 => hQ θ2 a2 w2 j1 ((h2.trans (step_put _ _ _ _ _)).trans j2) j3 j4 (j5.trans (hdf u))
      · rename_i hw
        simp only [Option.some.injEq, Prod.mk.injEq] at he
        obtain ⟨rfl, rfl⟩ := he
        rw [if_neg (by rw [yield_eq hT hw]; simp)]
        refine ops_wp hop τ hm.2 hs (hI.put o.dst _) (hT.put (relV_skip (hp w) R st θ) hdo) (hsz _) (fun o' ho' => hd o' (by simp [ho'])) fun θ2 a2 w2 j1 j2 j3 j4 j5 => hQ θ2 a2 w2 j1 ((step_put _ _ _ _ _).trans j2) j3 j4 (j5.trans (hdf _))
      · cases he
end
end Go.Ev
namespace Go.Ev
theorem disj_spec {xs ys : List Nat} (h : disj xs ys = true) : ∀ n, n ∈ xs → n ∉ ys := by
  intro n hn hm
  simp only [disj, List.all_eq_true] at h
  have := h n hn
  simp at this
  exact this hm
theorem St.ext' {s t : St} (h1 : s.tmps = t.tmps) (h2 : s.boxes = t.boxes) (h3 : s.objs = t.objs) : s = t := by
  cases s; cases t; simp_all
section
variable {opf : (Operand → TV) → Oper → M TV} {all : Array Oper}
def stepM (opf : (Operand → TV) → Oper → M TV) (all : Array Oper) (o : Oper) (st : St) : Option (M TV) :=
  match wantE all o st with
  | some true => some (opf (evalSt st) o)
  | some false => some (.ret (.tup []))
  | none => none
theorem estep_m {o : Oper} {st s1 : St} {l : Log} (h : estep opf all o st = some (s1, l)) : ∃ m v s0, stepM opf all o st = some m ∧ m.run st = some (v, s0, l) ∧ s1 = s0.put o.dst v := by
  unfold estep at h
  split at h
  · rename_i hw
    obtain ⟨⟨v, st0, l0⟩, hrun, he⟩ := Option.map_eq_some_iff.1 h
    simp only [Prod.mk.injEq] at he
    obtain ⟨rfl, rfl⟩ := he
    exact ⟨_, v, st0, by simp [stepM, hw], hrun, rfl⟩
  · rename_i hw
    simp only [Option.some.injEq, Prod.mk.injEq] at h
    obtain ⟨rfl, rfl⟩ := h
    exact ⟨.ret (.tup []), .tup [], st, by simp [stepM, hw], rfl, rfl⟩
  · cases h
theorem estep_mk {o : Oper} {st s0 : St} {l : Log} {m : M TV} {v : TV} (h : stepM opf all o st = some m) (hr : m.run st = some (v, s0, l)) : estep opf all o st = some (s0.put o.dst v, l) := by
  unfold stepM at h
  unfold estep
  split at h
  · rename_i hw
    cases h
    simp [hw, hr]
  · rename_i hw
    cases h
    simp only [M.run, Option.some.injEq, Prod.mk.injEq] at hr
    obtain ⟨rfl, rfl, rfl⟩ := hr
    simp [hw]
  · cases h
theorem stepM_congr (hc : ∀ (ρ ρ' : Operand → TV) (o : Oper), (∀ x ∈ o.op.operands.toList, ρ x = ρ' x) → opf ρ o = opf ρ' o) {o : Oper} {st st' : St} (h : ∀ t ∈ opTmps o all, st.tmps t = st'.tmps t) : stepM opf all o st = stepM opf all o st' := by
  have h1 : opf (evalSt st) o = opf (evalSt st') o := hc _ _ _ fun x hx => by
    cases x with
    | tmp t => exact h t (by simp only [opTmps, List.mem_append]; left; exact List.mem_filterMap.2 ⟨_, hx, rfl⟩)
    | _ => rfl
  have h2 : wantE all o st = wantE all o st' := by
    unfold wantE
    cases hg : o.guard with
    | none => rfl
    | some g =>
      obtain ⟨j, want⟩ := g
      cases ht : (all[j]?).bind (·.dst) with
      | none => simp only [ht]
      | some t =>
        have := h t (by simp only [opTmps, hg, List.mem_append]; right; simp [ht])
        simp only [ht, this]
  unfold stepM
  rw [h1, h2]
theorem put_tmps (s : St) (d : Option Nat) (v : TV) : (s.put d v).tmps = match d with | some d => upd s.tmps d v | none => s.tmps := by cases d <;> rfl
theorem put_off {s : St} {d : Option Nat} {v : TV} {t : Nat} (h : ∀ d', d = some d' → d' ≠ t) : (s.put d v).tmps t = s.tmps t := by
  cases d with
  | none => rfl
  | some d => exact upd_ne _ _ (fun e => h d rfl e.symm)
theorem same_put {s s' : St} {n : Nat} (d : Option Nat) (v : TV) (h : same s s' n) : same s (s'.put d v) n := by
  obtain ⟨h1, h2⟩ := h
  exact ⟨fun b hb => by rw [(bxs_put s' d v).1]; exact h1 b hb, fun k hk => by rw [(bxs_put s' d v).2]; exact h2 k hk⟩
theorem same_unput {s s' : St} {n : Nat} (d : Option Nat) (v : TV) (h : same s s' n) : same (s.put d v) s' n := by
  obtain ⟨h1, h2⟩ := h
  exact ⟨fun b hb => by rw [(bxs_put s d v).1]; exact h1 b hb, fun k hk => by rw [(bxs_put s d v).2]; exact h2 k hk⟩
theorem same.symm {s s' : St} {n : Nat} (h : same s s' n) : same s' s n := ⟨fun b hb => (h.1 b hb).symm, fun k hk => (h.2 k hk).symm⟩
theorem indep_spec {p q : Oper} {lp lq : Log} (h : indep all p q lp lq = true) : (∀ d, p.dst = some d → d ∉ opTmps q all ∧ q.dst ≠ some d) ∧ (∀ d, q.dst = some d → d ∉ opTmps p all) ∧ disj lp.wr lq.rd = true ∧ disj lp.wr lq.wr = true ∧ disj lq.wr lp.rd = true := by
  simp only [indep, Bool.and_eq_true] at h
  obtain ⟨⟨⟨⟨h1, h2⟩, h3⟩, h4⟩, h5⟩ := h
  refine ⟨fun d hd => ?_, fun d hd => ?_, h3, h4, h5⟩
  · rw [hd] at h1
    simp only [Bool.and_eq_true, Bool.not_eq_true'] at h1
    refine ⟨fun hm => ?_, fun e => ?_⟩
    · have := h1.1; simp at this; exact this hm
    · have := h1.2; rw [e] at this; simp at this
  · rw [hd] at h2
    simp at h2
    exact h2
theorem estep_swap (hc : ∀ (ρ ρ' : Operand → TV) (o : Oper), (∀ x ∈ o.op.operands.toList, ρ x = ρ' x) → opf ρ o = opf ρ' o) {p q : Oper} {st s1 s2 : St} {lp lq lp' lq' : Log} (h1 : estep opf all p st = some (s1, lp)) (h2 : estep opf all q s1 = some (s2, lq))
    (hi : indep all p q lp' lq' = true) (hp : lp.sub lp') (hq : lq.sub lq') : ∃ s1', estep opf all q st = some (s1', lq) ∧ estep opf all p s1' = some (s2, lp) := by
  obtain ⟨i1, i2, i3, i4, i5⟩ := indep_spec hi
  have d3 : ∀ n, n ∈ lp.wr → n ∉ lq.rd := fun n hn hm => disj_spec i3 n (hp.2 n hn) (hq.1 n hm)
  have d4 : ∀ n, n ∈ lp.wr → n ∉ lq.wr := fun n hn hm => disj_spec i4 n (hp.2 n hn) (hq.2 n hm)
  have d5 : ∀ n, n ∈ lq.wr → n ∉ lp.rd := fun n hn hm => disj_spec i5 n (hq.2 n hn) (hp.1 n hm)
  obtain ⟨mp, vp, sp, e1, r1, rfl⟩ := estep_m h1
  obtain ⟨mq, vq, sq, e2, r2, rfl⟩ := estep_m h2
  obtain ⟨kp1, kp2⟩ := M.run_keeps _ _ _ _ _ r1
  obtain ⟨kq1, kq2⟩ := M.run_keeps _ _ _ _ _ r2
  have e2' : stepM opf all q st = some mq := by
    rw [← e2]
    refine stepM_congr hc fun t ht => ?_
    rw [put_off (fun d hd => fun e => (i1 d hd).1 (e ▸ ht)), kp1]
  obtain ⟨sq', r2', k2'⟩ := M.run_local _ _ _ _ _ r2 st (fun n hn => by
    have hnw : n ∉ lp.wr := fun hw => hn.elim (d3 n hw) (d4 n hw)
    exact same_unput _ _ (kp2 n hnw).symm)
  obtain ⟨kq1', -⟩ := M.run_keeps _ _ _ _ _ r2'
  refine ⟨_, estep_mk e2' r2', ?_⟩
  have e1' : stepM opf all p (sq'.put q.dst vq) = some mp := by
    rw [← e1]
    refine (stepM_congr hc fun t ht => ?_).symm
    rw [put_off (fun d hd => fun e => i2 d hd (e ▸ ht)), kq1']
  obtain ⟨sp', r1', k1'⟩ := M.run_local _ _ _ _ _ r1 (sq'.put q.dst vq) (fun n hn => by
    have hnw : n ∉ lq.wr := fun hw => hn.elim (d5 n hw) (fun h => d4 n h hw)
    exact same_put _ _ ((k2' n).2 hnw))
  obtain ⟨kp1', -⟩ := M.run_keeps _ _ _ _ _ r1'
  have hfin := estep_mk e1' r1'
  rw [hfin]
  congr 2
  have hb : ∀ n, same (sq.put q.dst vq) (sp'.put p.dst vp) n := by
    intro n
    refine same_unput _ _ (same_put _ _ ?_)
    by_cases hpw : n ∈ lp.wr
    · have hqw := d4 n hpw
      have a1 := (k1' n).1 hpw
      have a2 := kq2 n hqw
      exact ⟨fun b hb => by rw [a1.1 b hb, a2.1 b hb, (bxs_put sp _ _).1], fun k hk => by rw [a1.2 k hk, a2.2 k hk, (bxs_put sp _ _).2]⟩
    · have a1 := (k1' n).2 hpw
      by_cases hqw : n ∈ lq.wr
      · have a2 := (k2' n).1 hqw
        exact ⟨fun b hb => by rw [a1.1 b hb, (bxs_put sq' _ _).1, a2.1 b hb], fun k hk => by rw [a1.2 k hk, (bxs_put sq' _ _).2, a2.2 k hk]⟩
      · have a2 := (k2' n).2 hqw
        have a3 := kq2 n hqw
        have a4 := kp2 n hpw
        exact ⟨fun b hb => by rw [a1.1 b hb, (bxs_put sq' _ _).1, a2.1 b hb, a3.1 b hb, (bxs_put sp _ _).1, a4.1 b hb], fun k hk => by rw [a1.2 k hk, (bxs_put sq' _ _).2, a2.2 k hk, a3.2 k hk, (bxs_put sp _ _).2, a4.2 k hk]⟩
  refine St.ext' ?_ (funext fun b => (hb (2 * b)).1 b rfl) (funext fun k => (hb (2 * k + 1)).2 k rfl)
  rw [put_tmps, put_tmps, kp1', kq1, put_tmps, put_tmps, kq1', kp1]
  cases hpd : p.dst with
  | none => rfl
  | some d =>
    cases hqd : q.dst with
    | none => rfl
    | some d' => exact upd_comm _ _ _ (fun e => (i1 d hpd).2 (by rw [hqd, e]))
theorem bubble (hc : ∀ (ρ ρ' : Operand → TV) (o : Oper), (∀ x ∈ o.op.operands.toList, ρ x = ρ' x) → opf ρ o = opf ρ' o) {o : Oper} {l l' : Log} (hl : l.sub l') : ∀ (pre : List (Oper × Log × Log)) {post : List Oper} {st st' : St} {ls : List Log}, ESeq opf all (pre.map (·.1) ++ o :: post) st (pre.map (·.2.1) ++ l :: ls) st' →
    (∀ x ∈ pre, x.2.1.sub x.2.2 ∧ indep all x.1 o x.2.2 l' = true) → ESeq opf all (o :: (pre.map (·.1) ++ post)) st (l :: (pre.map (·.2.1) ++ ls)) st'
  | [], post, st, st', ls, h, _ => h
  | (p, lp, lp') :: pre, post, st, st', ls, h, hx => by
    simp only [List.map_cons, List.cons_append, ESeq] at h
    obtain ⟨s1, lz, ls1, e, h1, h2⟩ := h
    simp only [List.cons.injEq] at e
    obtain ⟨rfl, rfl⟩ := e
    have ih := bubble hc hl pre h2 (fun x hx' => hx x (by simp [hx']))
    simp only [ESeq] at ih
    obtain ⟨s2, lz, ls2, e, h3, h4⟩ := ih
    simp only [List.cons.injEq] at e
    obtain ⟨rfl, rfl⟩ := e
    obtain ⟨q1, q2⟩ := hx (p, lp, lp') (by simp)
    obtain ⟨s1', j1, j2⟩ := estep_swap hc h1 h3 q2 q1 hl
    simp only [List.map_cons, List.cons_append, ESeq]
    exact ⟨s1', l, _, rfl, j1, s2, lp, _, rfl, j2, h4⟩
end
end Go.Ev
namespace Go.Ev
section
variable {opf : (Operand → TV) → Oper → M TV} {all : Array Oper}
structure Draw (all : Array Oper) (f : Nat → Oper × Log × Log) (m : Nat → Nat) : Prop where
  ops : ∀ i, i < all.size → all[i]? = some (f i).1
  pairs : ∀ i j, i < j → j < all.size → (m j).testBit i = true ∨ indep all (f i).1 (f j).1 (f i).2.2 (f j).2.2 = true
  subs : ∀ i, i < all.size → (f i).2.1.sub (f i).2.2
  edges : ∀ j, j < all.size → ∀ e ∈ (f j).1.after.toList, Region.binds .any e = true → e.on < j
  bits : ∀ j, j < all.size → ∀ p, (m j).testBit p = true → ∃ e ∈ (f j).1.after.toList, Region.binds .any e = true ∧ (p = e.on ∨ (m e.on).testBit p = true)
theorem getD_set {listed : Array Bool} {i j : Nat} (d : Bool) (hi : i < listed.size) : (listed.setIfInBounds i true).getD j d = if j = i then true else listed.getD j d := by
  by_cases h : j = i
  · subst h
    rw [if_pos rfl, Array.getD_eq_getD_getElem?, Array.getElem?_setIfInBounds_self_of_lt hi]
    rfl
  · rw [if_neg h, Array.getD_eq_getD_getElem?, Array.getElem?_setIfInBounds_ne (fun e => h e.symm), ← Array.getD_eq_getD_getElem?]
theorem lin_sound (hc : ∀ (ρ ρ' : Operand → TV) (o : Oper), (∀ x ∈ o.op.operands.toList, ρ x = ρ' x) → opf ρ o = opf ρ' o) {f : Nat → Oper × Log × Log} {m : Nat → Nat} (hD : Draw all f m) :
    ∀ (fuel t : Nat) {listed : Array Bool} {rem : List Nat} {st st' : St}, rem.Pairwise (· < ·) → (∀ i ∈ rem, i < all.size) → listed.size = all.size → (∀ i, i < all.size → (listed.getD i true = false ↔ i ∈ rem)) →
      (∀ j, j < all.size → j ∉ rem → ∀ p, (m j).testBit p = true → p ∉ rem) → rem.length ≤ fuel → ESeq opf all (rem.map fun i => (f i).1) st (rem.map fun i => (f i).2.1) st' →
      ∃ ls, ESeq opf all ((Region.linearise.go .any all fuel t listed []).map fun i => (f i).1) st ls st' ∧ ∀ i ∈ Region.linearise.go .any all fuel t listed [], i < all.size
  | 0, t, listed, rem, st, st', hp, hr, hs, hl, hcl, hf, h => by
    have : rem = [] := List.eq_nil_of_length_eq_zero (by omega)
    subst this
    exact ⟨_, by simpa [Region.linearise.go] using h, by simp [Region.linearise.go]⟩
  | fuel + 1, t, listed, rem, st, st', hp, hr, hs, hl, hcl, hf, h => by
    have hready : ∀ i, i ∈ Region.ready .any all listed → i ∈ rem ∧ ∀ e ∈ (f i).1.after.toList, Region.binds .any e = true → e.on ∉ rem := by
      intro i hi
      simp only [Region.ready, List.mem_filter, List.mem_range, Bool.and_eq_true, Bool.not_eq_true'] at hi
      obtain ⟨hlt, h1, h2⟩ := hi
      refine ⟨(hl i hlt).1 h1, fun e he hb hm => ?_⟩
      rw [hD.ops i hlt] at h2
      simp only [Option.map_some, Option.getD_some, Array.all_eq_true'] at h2
      have h3 := h2 e (by simpa using he)
      rw [hb] at h3
      simp only [Bool.not_true, Bool.false_or] at h3
      have hlt2 := hr _ hm
      have h4 := (hl e.on hlt2).2 hm
      rw [Array.getD_eq_getD_getElem?] at h3 h4
      have : listed[e.on]? = some listed[e.on] := Array.getElem?_eq_getElem (by omega)
      rw [this] at h3 h4
      simp only [Option.getD_some] at h3 h4
      rw [h3] at h4
      cases h4
    simp only [Region.linearise.go]
    change ∃ ls, ESeq opf all ((match (Region.ready .any all listed)[t % (Region.ready .any all listed).length]? with
      | some i => Region.linearise.go .any all fuel (t / (Region.ready .any all listed).length) (listed.setIfInBounds i true) [i]
      | none => [].reverse).map fun i => (f i).1) st ls st' ∧ ∀ i ∈ (match (Region.ready .any all listed)[t % (Region.ready .any all listed).length]? with
      | some i => Region.linearise.go .any all fuel (t / (Region.ready .any all listed).length) (listed.setIfInBounds i true) [i]
      | none => [].reverse), i < all.size
    cases hi : (Region.ready .any all listed)[t % (Region.ready .any all listed).length]? with
    | none =>
      have hnil : Region.ready .any all listed = [] := by
        cases hq : Region.ready .any all listed with
        | nil => rfl
        | cons x xs =>
          rw [hq] at hi
          have hlt : t % (x :: xs).length < (x :: xs).length := Nat.mod_lt _ (by simp)
          rw [List.getElem?_eq_getElem hlt] at hi
          cases hi
      have hrem : rem = [] := by
        cases rem with
        | nil => rfl
        | cons x xs =>
          exfalso
          have hx := hr x (by simp)
          have : x ∈ Region.ready .any all listed := by
            simp only [Region.ready, List.mem_filter, List.mem_range, Bool.and_eq_true, Bool.not_eq_true']
            refine ⟨hx, (hl x hx).2 (by simp), ?_⟩
            rw [hD.ops x hx]
            simp only [Option.map_some, Option.getD_some, Array.all_eq_true']
            intro e he
            cases hb : Region.binds .any e with
            | false => rfl
            | true =>
              have hlt := hD.edges x hx e (by simpa using he) hb
              have hnm : e.on ∉ x :: xs := fun hm => by
                rcases List.mem_cons.1 hm with h | h
                · omega
                · have := (List.pairwise_cons.1 hp).1 _ h; omega
              have h5 : listed.getD e.on true ≠ false := fun h => hnm ((hl e.on (by omega)).1 h)
              rw [Array.getD_eq_getD_getElem?] at h5 ⊢
              have h6 : listed[e.on]? = some listed[e.on] := Array.getElem?_eq_getElem (by omega)
              rw [h6] at h5 ⊢
              simpa using h5
          rw [hnil] at this
          cases this
      subst hrem
      exact ⟨_, by simpa using h, by simp⟩
    | some i =>
      obtain ⟨him, hie⟩ := hready i (List.mem_of_getElem? hi)
      have hlti := hr i him
      obtain ⟨pre, post, rfl⟩ := List.append_of_mem him
      obtain ⟨p1, p2, p3⟩ := List.pairwise_append.1 hp
      obtain ⟨p4, p5⟩ := List.pairwise_cons.1 p2
      have hbits : ∀ p, (m i).testBit p = true → p ∉ pre ++ i :: post := by
        intro p hpb
        obtain ⟨e, he, hb, hor⟩ := hD.bits i hlti p hpb
        have he1 := hie e he hb
        rcases hor with rfl | hor
        · exact he1
        · exact hcl e.on (Nat.lt_trans (hD.edges i hlti e he hb) hlti) he1 p hor
      have hbub := bubble (opf := opf) (all := all) hc (o := (f i).1) (l := (f i).2.1) (l' := (f i).2.2) (hD.subs i hlti) (pre.map f) (post := post.map fun i => (f i).1) (ls := post.map fun i => (f i).2.1) (st := st) (st' := st')
        (by simpa [List.map_map, Function.comp_def] using h) (fun x hx => by
          obtain ⟨j, hj, rfl⟩ := List.mem_map.1 hx
          refine ⟨hD.subs j (hr j (by simp [hj])), ?_⟩
          exact (hD.pairs j i (p3 j hj i (by simp)) hlti).resolve_left (fun hb => hbits j hb (by simp [hj])))
      simp only [ESeq] at hbub
      obtain ⟨s1, l1, ls1, e, h1, h2⟩ := hbub
      simp only [List.cons.injEq] at e
      obtain ⟨rfl, rfl⟩ := e
      have hnd : ∀ j, j ∈ pre ++ post ↔ j ∈ pre ++ i :: post ∧ j ≠ i := by
        intro j
        simp only [List.mem_append, List.mem_cons]
        constructor
        · rintro (h | h)
          · exact ⟨.inl h, fun e => by have := p3 j h i (by simp); omega⟩
          · exact ⟨.inr (.inr h), fun e => by have := p4 j h; omega⟩
        · rintro ⟨h | h | h, hne⟩
          · exact .inl h
          · exact absurd h hne
          · exact .inr h
      obtain ⟨ls2, k1, k2⟩ := lin_sound hc hD fuel (t / (Region.ready .any all listed).length) (listed := listed.setIfInBounds i true) (rem := pre ++ post) (st := s1) (st' := st')
        (List.pairwise_append.2 ⟨p1, p5, fun a ha b hb => p3 a ha b (by simp [hb])⟩) (fun j hj => hr j ((hnd j).1 hj).1) (by simpa using hs)
        (fun j hj => by
          rw [getD_set _ (by omega), hnd]
          by_cases e : j = i
          · subst e; simp
          · simp only [if_neg e, ne_eq, e, not_false_eq_true, and_true]; exact hl j hj)
        (fun j hj hjn p hpb hpm => by
          have hpm' := (hnd p).1 hpm
          by_cases e : j = i
          · subst e; exact hbits p hpb hpm'.1
          · exact hcl j hj (fun hm => hjn ((hnd j).2 ⟨hm, e⟩)) p hpb hpm'.1)
        (by simp only [List.length_append, List.length_cons] at hf ⊢; omega)
        (by simpa [List.map_map, Function.comp_def] using h2)
      refine ⟨(f i).2.1 :: ls2, ?_, ?_⟩
      · dsimp only
        rw [linearise_go_acc, List.reverse_singleton, List.singleton_append, List.map_cons]
        exact ⟨s1, _, ls2, rfl, h1, k1⟩
      · dsimp only
        rw [linearise_go_acc, List.reverse_singleton, List.singleton_append]
        intro j hj
        rcases List.mem_cons.1 hj with rfl | hj
        · exact hlti
        · exact k2 j hj
end
end Go.Ev
namespace Go.Ev
theorem opM_congr {T : TypeId → Option TyI} {call : FuncId → List TV → Nat → M TV} (ρ ρ' : Operand → TV) (o : Oper) (h : ∀ x ∈ o.op.operands.toList, ρ x = ρ' x) : opM T call ρ o = opM T call ρ' o := by
  obtain ⟨dst, op, type, pos, after, guard⟩ := o
  have pairs : ∀ ps : Array (Nat × Operand), (∀ x ∈ ps.map (·.2), ρ x = ρ' x) → (ps.toList.map fun p => (p.1, ρ p.2)) = (ps.toList.map fun p => (p.1, ρ' p.2)) := fun ps hp =>
    List.map_congr_left fun p hm => by rw [hp p.2 (Array.mem_map.2 ⟨p, by simpa using hm, rfl⟩)]
  cases op <;> simp only [Op.operands] at h <;> simp only [opM]
  case build t ps => rw [pairs ps fun x hx => h x (by simpa using hx)]
  case buildSlice t n ps => rw [pairs ps fun x hx => h x (by simpa using hx)]
  case makeFunc fn first captured =>
    have e1 : first.toList.map ρ = first.toList.map ρ' := List.map_congr_left fun x hx => h x (by simp [Array.mem_toList_iff.1 hx])
    have e2 : captured.toList.map ρ = captured.toList.map ρ' := List.map_congr_left fun x hx => h x (by simp [Array.mem_toList_iff.1 hx])
    cases fn <;> simp only [e1, e2]
  case slice t x lo hi mx => cases lo <;> cases hi <;> cases mx <;> simp_all
  case call c =>
    have hargs : ∀ x ∈ c.args.toList, ρ x = ρ' x := fun x hx => h x (by simp [Call.operands, Array.mem_toList_iff.1 hx])
    have hmap : c.args.toList.map ρ = c.args.toList.map ρ' := List.map_congr_left hargs
    cases hc : c.callee with
    | invoke r m => rfl
    | value f =>
      have hf : ρ f = ρ' f := h f (by simp [Call.operands, hc])
      cases f <;> simp only [hmap, hf]
    | builtin b =>
      cases b <;> try rfl
      case len =>
        revert hargs
        cases c.args.toList with
        | nil => intro _; rfl
        | cons x xs => intro hargs; cases xs <;> cases c.argTypes.toList <;> first | rfl | simp only [hargs x (by simp)]
      case append =>
        revert hargs
        cases c.args.toList with
        | nil => intro _; rfl
        | cons x xs =>
          intro hargs
          cases xs with
          | nil => rfl
          | cons y ys =>
            cases c.argTypes.toList with
            | nil => cases ys <;> rfl
            | cons t ts =>
              cases ts with
              | nil => cases ys <;> rfl
              | cons t2 ts => cases ys <;> cases ts <;> first | rfl | simp only [hargs x (by simp), hargs y (by simp)]
      case min =>
        revert hargs
        cases c.args.toList with
        | nil => intro _; rfl
        | cons x xs =>
          intro hargs
          cases xs with
          | nil => rfl
          | cons y ys => cases ys <;> first | rfl | simp only [hargs x (by simp), hargs y (by simp)]
      case max =>
        revert hargs
        cases c.args.toList with
        | nil => intro _; rfl
        | cons x xs =>
          intro hargs
          cases xs with
          | nil => rfl
          | cons y ys => cases ys <;> first | rfl | simp only [hargs x (by simp), hargs y (by simp)]
  all_goals (first | rfl | (simp_all; done))
theorem fold_bits {acc : List Nat} {p : Nat} : ∀ (es : List Edge) (s : Nat), (es.foldl (fun s e => cond (Region.binds .any e) (s ||| 2 ^ e.on ||| acc.getD e.on 0) s) s).testBit p = true →
    s.testBit p = true ∨ ∃ e ∈ es, Region.binds .any e = true ∧ (p = e.on ∨ (acc.getD e.on 0).testBit p = true)
  | [], s, h => .inl h
  | e :: es, s, h => by
    simp only [List.foldl_cons] at h
    rcases fold_bits es _ h with h | ⟨e', h1, h2, h3⟩
    · cases hb : Region.binds .any e with
      | false => rw [hb] at h; exact .inl h
      | true =>
        rw [hb] at h
        simp only [cond_true, Nat.testBit_or, Bool.or_eq_true, Nat.testBit_two_pow, decide_eq_true_eq] at h
        rcases h with (h | h) | h
        · exact .inl h
        · exact .inr ⟨e, by simp, hb, .inl h.symm⟩
        · exact .inr ⟨e, by simp, hb, .inr h⟩
    · exact .inr ⟨e', by simp [h1], h2, h3⟩
theorem befores_bits : ∀ (ops : List Oper) (acc : List Nat) (k : Nat) (o : Oper), ops[k]? = some o → ∃ m, (befores ops acc)[k]? = some m ∧
    ((∀ e ∈ o.after.toList, Region.binds .any e = true → e.on < acc.length + k) → ∀ p, m.testBit p = true → ∃ e ∈ o.after.toList, Region.binds .any e = true ∧ (p = e.on ∨ ((acc ++ befores ops acc).getD e.on 0).testBit p = true))
  | [], _, k, o, h => by simp at h
  | o' :: ops, acc, 0, o, h => by
    simp only [List.getElem?_cons_zero, Option.some.injEq] at h
    subst h
    refine ⟨_, rfl, fun hl p hp => ?_⟩
    rcases fold_bits _ _ hp with h | ⟨e, h1, h2, h3⟩
    · simp at h
    · refine ⟨e, h1, h2, h3.imp id fun h => ?_⟩
      have := hl e h1 h2
      rwa [List.getD_eq_getElem?_getD, List.getElem?_append_left (by omega), ← List.getD_eq_getElem?_getD]
  | o' :: ops, acc, k + 1, o, h => by
    obtain ⟨m, h1, h2⟩ := befores_bits ops (acc ++ [_]) k o (by simpa using h)
    refine ⟨m, by simp only [befores, List.getElem?_cons_succ]; exact h1, fun hl p hp => ?_⟩
    obtain ⟨e, h3, h4, h5⟩ := h2 (fun e he hb => by have := hl e he hb; simp; omega) p hp
    refine ⟨e, h3, h4, h5.imp id fun h => ?_⟩
    simp only [befores]
    simpa using h
end Go.Ev
namespace Go.Ev
theorem pairsOk_spec {all : Array Oper} {x : Oper} {lx : Log} {i : Nat} : ∀ (os : List Oper) (ls : List Log) (ms : List Nat), pairsOk all x lx i os ls ms = true → ∀ (k : Nat) (o : Oper) (l : Log) (m : Nat), os[k]? = some o → ls[k]? = some l → ms[k]? = some m → m.testBit i = true ∨ indep all x o lx l = true
  | o :: os, l :: ls, m :: ms, h, k, o', l', m', h1, h2, h3 => by
    simp only [pairsOk, Bool.and_eq_true, Bool.or_eq_true] at h
    cases k with
    | zero => simp at h1 h2 h3; subst h1 h2 h3; exact h.1
    | succ k => exact pairsOk_spec os ls ms h.2 k o' l' m' (by simpa using h1) (by simpa using h2) (by simpa using h3)
  | [], _, _, _, k, o, l, m, h1, _, _ => by simp at h1
  | _ :: _, [], _, _, k, o, l, m, _, h2, _ => by simp at h2
  | _ :: _, _ :: _, [], _, k, o, l, m, _, _, h3 => by simp at h3
theorem drawGo_spec {all : Array Oper} : ∀ (os : List Oper) (ls : List Log) (ms : List Nat) (i : Nat), drawGo all i os ls ms = true → ∀ (j : Nat) (o : Oper) (l : Log) (m : Nat), os[j]? = some o → ls[j]? = some l → ms[j]? = some m →
    edgesOk (i + j) o = true ∧ ∀ (k : Nat) (o' : Oper) (l' : Log) (m' : Nat), j < k → os[k]? = some o' → ls[k]? = some l' → ms[k]? = some m' → m'.testBit (i + j) = true ∨ indep all o o' l l' = true
  | o :: os, l :: ls, m :: ms, i, h, j, o1, l1, m1, h1, h2, h3 => by
    simp only [drawGo, Bool.and_eq_true] at h
    cases j with
    | zero =>
      simp at h1 h2 h3
      subst h1 h2 h3
      refine ⟨h.1.1, fun k o' l' m' hk k1 k2 k3 => ?_⟩
      cases k with
      | zero => omega
      | succ k => exact pairsOk_spec os ls ms h.1.2 k o' l' m' (by simpa using k1) (by simpa using k2) (by simpa using k3)
    | succ j =>
      obtain ⟨q1, q2⟩ := drawGo_spec os ls ms (i + 1) h.2 j o1 l1 m1 (by simpa using h1) (by simpa using h2) (by simpa using h3)
      rw [show i + (j + 1) = i + 1 + j from by omega]
      refine ⟨q1, fun k o' l' m' hk k1 k2 k3 => ?_⟩
      cases k with
      | zero => omega
      | succ k => exact q2 k o' l' m' (by omega) (by simpa using k1) (by simpa using k2) (by simpa using k3)
  | [], _, _, _, _, j, o, l, m, h1, _, _ => by simp at h1
  | _ :: _, [], _, _, _, j, o, l, m, _, h2, _ => by simp at h2
  | _ :: _, _ :: _, [], _, _, j, o, l, m, _, _, h3 => by simp at h3
theorem befores_length : ∀ (ops : List Oper) (acc : List Nat), (befores ops acc).length = ops.length
  | [], _ => rfl
  | o :: ops, acc => by simp [befores, befores_length ops]
theorem subs_get : ∀ {ls ls' : List Log}, subs ls ls' → ls.length = ls'.length ∧ ∀ (i : Nat) (l : Log), ls[i]? = some l → ∃ l' : Log, ls'[i]? = some l' ∧ l.sub l'
  | [], [], _ => ⟨rfl, by simp⟩
  | [], _ :: _, h => h.elim
  | _ :: _, [], h => h.elim
  | l :: ls, l' :: ls', h => by
    obtain ⟨h1, h2⟩ := subs_get h.2
    refine ⟨by simp [h1], fun i x hx => ?_⟩
    cases i with
    | zero => simp at hx; subst hx; exact ⟨l', rfl, h.1⟩
    | succ i => simpa using h2 i x (by simpa using hx)
theorem ESeq.length {opf : (Operand → TV) → Oper → M TV} {all : Array Oper} : ∀ {ops : List Oper} {st st' : St} {ls : List Log}, ESeq opf all ops st ls st' → ls.length = ops.length
  | [], _, _, _, h => by rw [h.1]; rfl
  | o :: ops, st, st', ls, h => by
    obtain ⟨s1, l, ls1, rfl, -, h2⟩ := h
    simp [ESeq.length h2]
def tri (all : Array Oper) (ls ls' : List Log) (i : Nat) : Oper × Log × Log := (all.getD i default, ls.getD i .none, ls'.getD i .none)
theorem draw_of {all : Array Oper} {ls ls' : List Log} (hl : ls.length = all.size) (hs : subs ls ls') (h : drawOk all ls' = true) : Draw all (tri all ls ls') (fun i => (befores all.toList []).getD i 0) := by
  obtain ⟨hl', hs⟩ := subs_get hs
  have ho : ∀ i, i < all.size → all[i]? = some (tri all ls ls' i).1 := fun i hi => by simp [tri, Array.getD_eq_getD_getElem?, Array.getElem?_eq_getElem hi]
  have hb : ∀ i, i < all.size → (befores all.toList [])[i]? = some ((befores all.toList []).getD i 0) := fun i hi => by
    have : i < (befores all.toList []).length := by rw [befores_length]; simpa using hi
    simp [List.getD_eq_getElem?_getD, List.getElem?_eq_getElem this]
  have hg : ∀ i, i < all.size → ls'[i]? = some (tri all ls ls' i).2.2 := fun i hi => by
    have : i < ls'.length := by omega
    simp [tri, List.getD_eq_getElem?_getD, List.getElem?_eq_getElem this]
  have ho' : ∀ i, i < all.size → all.toList[i]? = some (tri all ls ls' i).1 := fun i hi => by simpa using ho i hi
  have hspec := fun i (hi : i < all.size) => drawGo_spec all.toList ls' (befores all.toList []) 0 h i _ _ _ (ho' i hi) (hg i hi) (hb i hi)
  have hed : ∀ j, j < all.size → ∀ e ∈ (tri all ls ls' j).1.after.toList, Region.binds .any e = true → e.on < j := fun j hj e he hbd => by
    have := (hspec j hj).1
    rw [Nat.zero_add] at this
    simp only [edgesOk, List.all_eq_true] at this
    have := this e he
    rw [hbd] at this
    have h3 : Nat.blt e.on j = true := by simpa using this
    exact Nat.le_of_ble_eq_true h3
  refine ⟨ho, fun i j hij hj => ?_, fun i hi => ?_, hed, fun j hj p hp => ?_⟩
  · have := (hspec i (by omega)).2 j _ _ _ hij (ho' j hj) (hg j hj) (hb j hj)
    rwa [Nat.zero_add] at this
  · have hli : ls[i]? = some (tri all ls ls' i).2.1 := by
      have : i < ls.length := by omega
      simp [tri, List.getD_eq_getElem?_getD, List.getElem?_eq_getElem this]
    obtain ⟨l', h1, h2⟩ := hs i _ hli
    rw [hg i hi] at h1
    cases h1
    exact h2
  · obtain ⟨m, h1, h2⟩ := befores_bits all.toList [] j _ (ho' j hj)
    rw [hb j hj] at h1
    cases h1
    have := h2 (fun e he hbd => by have := hed j hj e he hbd; simp; omega) p hp
    simpa using this
end Go.Ev
namespace Go.Ev
theorem range_map_getD {α : Type} (l : List α) (d : α) : (List.range l.length).map (fun i => l.getD i d) = l := by
  apply List.ext_getElem?
  intro i
  simp only [List.getElem?_map]
  by_cases h : i < l.length
  · rw [List.getElem?_range h]
    simp [List.getD_eq_getElem?_getD, List.getElem?_eq_getElem h]
  · rw [List.getElem?_eq_none (by simpa using h), List.getElem?_eq_none (by omega)]
    rfl
section
variable {P : Program} {w0 w : World} {F R : Nat → Prop} {st st' : St} {θ : Asg} {a : Act} {opf : (Operand → TV) → Oper → M TV} {ops : Array Oper} {Q : Exit → Act → World → Prop} {ls ls' : List Log}
def OpsOk (P : Program) (opf : (Operand → TV) → Oper → M TV) (w0 : World) (F R : Nat → Prop) : Prop :=
  ∀ {st st' : St} {θ : Asg} {w : World} {a : Act} {o : Oper} {v : TV} {l : Log}, Inv w0 F R st θ w → Tm (hp w) R st θ a → (opf (evalSt st) o).run st = some (v, st', l) → OpOk P w0 F R st θ w o a v st'
theorem region_wp (hmix : P.follows .mixedOrders = true) (hop : OpsOk P opf w0 F R) (hc : ∀ (ρ ρ' : Operand → TV) (o : Oper), (∀ x ∈ o.op.operands.toList, ρ x = ρ' x) → opf ρ o = opf ρ' o) {id : Nat} {draw : Bool} {n : Nat}
    (hs : ESeq opf ops ops.toList st ls st') (hsub : subs ls ls') (hd : draw = true → drawOk ops ls' = true) (hI : Inv w0 F R st θ w) (hT : Tm (hp w) R st θ a) (hn : a.tmps.size = n) (hdst : ∀ o ∈ ops.toList, ∀ t, o.dst = some t → t < n)
    (hQ : ∀ θ' a' w', Inv w0 F R st' θ' w' → Step R st θ (hp w) st' θ' (hp w') → Tm (hp w') R st' θ' a' → a'.tmps.size = n → a'.defers = a.defers → Q .normal a' w') : (Code.region id ops draw).wp P Q a w := by
  have hlen : ls.length = ops.size := by simpa using hs.length
  cases draw with
  | false =>
    refine wp_region (ops_wp hop _ ?_ hs hI hT hn hdst hQ)
    apply List.ext_getElem?
    intro i
    simp only [List.getElem?_map]
    by_cases h : i < ops.size
    · rw [List.getElem?_range h]
      simp [h]
    · rw [List.getElem?_eq_none (by simpa using h), List.getElem?_eq_none (by simpa using h)]
      rfl
  | true =>
    refine wp_region_draw fun t => ?_
    have hI1 : Inv w0 F R st θ { w with drawn := w.drawn + 1 } := (hI.world (w' := { w with drawn := w.drawn + 1 }) (Nat.le_refl _) rfl rfl rfl (fun _ _ => rfl)).1
    simp only [Region.schedule, hmix, Bool.true_or, if_true]
    have hD := draw_of hlen hsub (hd rfl)
    have e1 : (List.range ops.size).map (fun i => (tri ops ls ls' i).1) = ops.toList := by
      have := range_map_getD ops.toList default
      simpa [tri, Array.getD_eq_getD_getElem?, List.getD_eq_getElem?_getD] using this
    have e2 : (List.range ops.size).map (fun i => (tri ops ls ls' i).2.1) = ls := by
      have := range_map_getD ls .none
      rw [hlen] at this
      exact this
    obtain ⟨ls2, h1, h2⟩ := lin_sound hc hD ops.size t (listed := Array.replicate ops.size false) (rem := List.range ops.size) (st := st) (st' := st') List.pairwise_lt_range (fun i hi => by simpa using hi) (by simp)
      (fun i hi => by simp [Array.getD_eq_getD_getElem?, hi]) (fun j hj hjn => absurd (by simpa using hj) hjn) (by simp) (by rw [e1, e2]; exact hs)
    refine ops_wp hop _ (ops := (Region.linearise.go .any ops ops.size t (Array.replicate ops.size false) []).map fun i => (tri ops ls ls' i).1) ?_ h1 hI1 hT hn (fun o ho => ?_) hQ
    · rw [List.map_map]
      exact List.map_congr_left fun i hi => hD.ops i (h2 i hi)
    · obtain ⟨i, hi, rfl⟩ := List.mem_map.1 ho
      have := hD.ops i (h2 i hi)
      exact hdst _ (Array.mem_toList_iff.2 (Array.mem_of_getElem? this))
end
end Go.Ev
namespace Go.Ev
section
variable {R : Nat → Prop} {st st' s2 : St} {θ θ' : Asg} {H H' : Heap}
structure Old (st st' : St) : Prop where
  bx : ∀ b, (st.boxes b).isSome = true → st'.boxes b = st.boxes b
  ob : ∀ k, (st.objs k).dat.isSome = true → st'.objs k = st.objs k
mutual
theorem RelC.forget (ho : Old st st') (hb : s2.boxes = st.boxes) (hk : s2.objs = st.objs) : ∀ (c : Cell) (v0 v : Value), RelC H R st θ c v0 → RelC H' R st' θ' c v → RelC H' R s2 θ' c v
  | .undef, _, _, _, _ => by simp [RelC]
  | .b _, _, _, _, h => by simpa only [RelC] using h
  | .i _ _, _, _, _, h => by simpa only [RelC] using h
  | .s _, _, _, _, h => by simpa only [RelC] using h
  | .sh _ _, _, _, _, h => by simpa only [RelC] using h
  | .shn _ _, _, _, _, h => by simpa only [RelC] using h
  | .nl, _, _, _, h => by simpa only [RelC] using h
  | .z0, _, _, _, h => by simpa only [RelC] using h
  | .ob k ver vw, v0, v, h0, h => by
    simp only [RelC] at h0 h ⊢
    rw [hk]
    refine ⟨h0.1, fun e hd => ?_⟩
    have := ho.ob k hd
    rw [this] at h
    exact h.2 e hd
  | .gs k ver wv pl c x, v0, v, h0, h => by
    simp only [RelC] at h0 h ⊢
    rw [hk]
    refine ⟨h0.1, h0.2.1, fun e => ⟨(h0.2.2 e).1, fun e2 d hd => ?_⟩⟩
    have := ho.ob k (by simp [hd])
    rw [this] at h
    exact (h.2.2 e).2 e2 d hd
  | .nilp, _, _, _, h => by simpa only [RelC] using h
  | .pb b off, v0, v, h0, h => by
    simp only [RelC] at h0 h ⊢
    rw [hb]
    exact ⟨h0.1, h.2⟩
  | .pe k ver i off, v0, v, h0, h => by
    simp only [RelC] at h0 h ⊢
    rw [hk]
    refine ⟨h.1, h0.2.1, fun e d hd => ?_⟩
    have := ho.ob k (by simp [hd])
    rw [this] at h
    exact h.2.2 e d hd
  | .pr _ _ _, _, _, _, h => by simpa only [RelC] using h
  | .nilf, _, _, _, h => by simpa only [RelC] using h
  | .pg k ver wv ts x off, v0, v, h0, h => by
    simp only [RelC] at h0 h ⊢
    rw [hk]
    refine ⟨h.1, h0.2.1, fun e => ⟨(h0.2.2 e).1, fun e2 hd => ?_⟩⟩
    have := ho.ob k hd
    rw [this] at h
    exact (h.2.2 e).2 e2 hd
  | .fn f a b, v0, v, h0, h => by
    simp only [RelC] at h0 h ⊢
    obtain ⟨va, vb, rfl, h1, h2⟩ := h
    obtain ⟨va0, vb0, -, k1, k2⟩ := h0
    exact ⟨va, vb, rfl, RelCs.forget ho hb hk a _ _ k1 h1, RelCs.forget ho hb hk b _ _ k2 h2⟩
  | .er _, _, _, _, h => by simpa only [RelC] using h
theorem RelCs.forget (ho : Old st st') (hb : s2.boxes = st.boxes) (hk : s2.objs = st.objs) : ∀ (cs : List Cell) (vs0 vs : List Value), RelCs H R st θ cs vs0 → RelCs H' R st' θ' cs vs → RelCs H' R s2 θ' cs vs
  | [], _, _, _, h => by simpa only [RelCs] using h
  | c :: cs, vs0, vs, h0, h => by
    simp only [RelCs] at h0 h ⊢
    obtain ⟨v, vs', rfl, h1, h2⟩ := h
    obtain ⟨v0, vs0', -, k1, k2⟩ := h0
    exact ⟨v, vs', rfl, ⟨RelC.forget ho hb hk c _ _ k1.1 h1.1, h1.2⟩, RelCs.forget ho hb hk cs _ _ k2 h2⟩
end
mutual
theorem RelV.forget (ho : Old st st') (hb : s2.boxes = st.boxes) (hk : s2.objs = st.objs) : ∀ (c : TV) (v0 v : Value), RelV H R st θ c v0 → RelV H' R st' θ' c v → RelV H' R s2 θ' c v
  | .one c, v0, v, h0, h => by
    simp only [RelV] at h0 h ⊢
    exact ⟨RelC.forget ho hb hk c _ _ h0.1 h.1, h.2⟩
  | .agg cs, v0, v, h0, h => by
    simp only [RelV] at h0 h ⊢
    obtain ⟨arr, rfl, h⟩ := h
    obtain ⟨arr0, -, h0⟩ := h0
    exact ⟨arr, rfl, RelCs.forget ho hb hk cs _ _ h0 h⟩
  | .tup vs, v0, v, h0, h => by
    simp only [RelV] at h0 h ⊢
    obtain ⟨arr, rfl, h⟩ := h
    obtain ⟨arr0, -, h0⟩ := h0
    exact ⟨arr, rfl, RelVs.forget ho hb hk vs _ _ h0 h⟩
theorem RelVs.forget (ho : Old st st') (hb : s2.boxes = st.boxes) (hk : s2.objs = st.objs) : ∀ (cs : List TV) (vs0 vs : List Value), RelVs H R st θ cs vs0 → RelVs H' R st' θ' cs vs → RelVs H' R s2 θ' cs vs
  | [], _, _, _, h => by simpa only [RelVs] using h
  | c :: cs, vs0, vs, h0, h => by
    simp only [RelVs] at h0 h ⊢
    obtain ⟨v, vs', rfl, h1, h2⟩ := h
    obtain ⟨v0, vs0', -, k1, k2⟩ := h0
    exact ⟨v, vs', rfl, RelV.forget ho hb hk c _ _ k1 h1, RelVs.forget ho hb hk cs _ _ k2 h2⟩
end
end
section
variable {w0 w w' : World} {F R : Nat → Prop} {st st' s2 : St} {θ θ' : Asg}
theorem Inv.forget (hI : Inv w0 F R st θ w) (hI' : Inv w0 F R st' θ' w') (s : Step R st θ (hp w) st' θ' (hp w')) (ho : Old st st') (hb : s2.boxes = st.boxes) (hk : s2.objs = st.objs) :
    Inv w0 F R s2 θ' w' ∧ Step R st θ (hp w) s2 θ' (hp w') := by
  have hbs : ∀ b, (s2.boxes b).isSome = true → (st'.boxes b).isSome = true := fun b h => by rw [hb] at h; rw [ho.bx b h]; exact h
  have hks : ∀ k, (s2.objs k).dat.isSome = true → (st'.objs k).dat.isSome = true := fun k h => by rw [hk] at h; rw [ho.ob k h]; exact h
  constructor
  · refine ⟨hI'.size, hI'.same, hI'.os, hI'.tape, hI'.out, hI'.rd, fun b cs hcs => ?_, fun k d hd => ?_, fun b b' h1 h2 => hI'.bb b b' (hbs b h1) (hbs b' h2), fun b k h1 h2 => hI'.bo b k (hbs b h1) (hks k h2), fun k k' g h1 h2 => hI'.oo k k' g (hks k h1) (hks k' h2), ?_⟩
    · rw [hb] at hcs
      have e := ho.bx b (by simp [hcs])
      obtain ⟨arr, ty, frz, h1, h2, h3⟩ := hI'.boxes b cs (e.trans hcs)
      obtain ⟨arr0, ty0, frz0, -, -, k3⟩ := hI.boxes b cs hcs
      exact ⟨arr, ty, frz, h1, h2, RelCs.forget ho hb hk cs _ _ k3 h3⟩
    · rw [hk] at hd
      have e := ho.ob k (by simp [hd])
      exact hI'.objs k d (by rw [e]; exact hd)
    · rintro g (⟨b, h1, h2⟩ | ⟨k, h1, h2⟩)
      · exact hI'.own g (.inl ⟨b, hbs b h1, h2⟩)
      · exact hI'.own g (.inr ⟨k, hks k h1, h2⟩)
  · refine ⟨s.rd, fun b h => ⟨by rw [hb]; exact h, (s.bx b h).2⟩, fun k => .inl ⟨by rw [hk], fun h => ?_⟩⟩
    have e := ho.ob k h
    rcases s.ob k with ⟨-, q⟩ | q | ⟨-, q, -⟩
    · exact q h
    · rw [e] at q; omega
    · rw [e] at q; omega
end
section
variable {opf : (Operand → TV) → Oper → M TV} {all : Array Oper}
theorem eseq_keeps : ∀ {ops : List Oper} {st st' : St} {ls : List Log}, ESeq opf all ops st ls st' → (∀ n, (∀ l ∈ ls, n ∉ l.wr) → same st st' n) ∧ ∀ t, (∀ o ∈ ops, o.dst ≠ some t) → st'.tmps t = st.tmps t
  | [], st, st', ls, h => by
    obtain ⟨-, rfl⟩ := h
    exact ⟨fun _ _ => ⟨fun _ _ => rfl, fun _ _ => rfl⟩, fun _ _ => rfl⟩
  | o :: ops, st, st', ls, h => by
    obtain ⟨s1, l, ls1, rfl, h1, h2⟩ := h
    obtain ⟨m, v, s0, e1, r1, rfl⟩ := estep_m h1
    obtain ⟨k1, k2⟩ := M.run_keeps _ _ _ _ _ r1
    obtain ⟨j1, j2⟩ := eseq_keeps h2
    refine ⟨fun n hn => ?_, fun t ht => ?_⟩
    · have a1 := same_put o.dst v (k2 n (hn l (by simp)))
      have a2 := j1 n (fun l' hl' => hn l' (by simp [hl']))
      exact ⟨fun b hb => (a2.1 b hb).trans (a1.1 b hb), fun k hk => (a2.2 k hk).trans (a1.2 k hk)⟩
    · rw [j2 t (fun o' ho' => ht o' (by simp [ho'])), put_off (fun d hd e => ht o (by simp) (by rw [hd, e])), k1]
theorem wipe_spec : ∀ (ops : List Oper) (st : St), (wipe st ops).boxes = st.boxes ∧ (wipe st ops).objs = st.objs ∧ ∀ t, (wipe st ops).tmps t = .one .undef ∨ ((∀ o ∈ ops, o.dst ≠ some t) ∧ (wipe st ops).tmps t = st.tmps t)
  | [], st => ⟨rfl, rfl, fun t => .inr ⟨by simp, rfl⟩⟩
  | o :: ops, st => by
    cases hd : o.dst with
    | none =>
      obtain ⟨h1, h2, h3⟩ := wipe_spec ops st
      refine ⟨by simp only [wipe, hd]; exact h1, by simp only [wipe, hd]; exact h2, fun t => ?_⟩
      simp only [wipe, hd]
      refine (h3 t).imp id fun ⟨k1, k2⟩ => ⟨fun o' ho' => ?_, k2⟩
      rcases List.mem_cons.1 ho' with rfl | ho'
      · rw [hd]; simp
      · exact k1 o' ho'
    | some d =>
      obtain ⟨h1, h2, h3⟩ := wipe_spec ops { st with tmps := upd st.tmps d (.one .undef) }
      refine ⟨by simp only [wipe, hd]; exact h1, by simp only [wipe, hd]; exact h2, fun t => ?_⟩
      simp only [wipe, hd]
      rcases h3 t with k | ⟨k1, k2⟩
      · exact .inl k
      · by_cases e : t = d
        · subst e; left; rw [k2]; simp [upd_same]
        · right
          refine ⟨fun o' ho' => ?_, by rw [k2]; exact upd_ne _ _ e⟩
          rcases List.mem_cons.1 ho' with rfl | ho'
          · rw [hd]; simp; exact fun h => e h.symm
          · exact k1 o' ho'
theorem old_of {ops : List Oper} {st st' : St} {ls ls' : List Log} (hs : ESeq opf all ops st ls st') (hsub : subs ls ls') (hr : roOk st ls' = true) : Old st st' := by
  obtain ⟨hl, hsub⟩ := subs_get hsub
  have hw : ∀ n, (∃ l ∈ ls, n ∈ l.wr) → cond (Nat.beq (n % 2) 0) (st.boxes (n / 2)).isNone (st.objs (n / 2)).dat.isNone = true := by
    rintro n ⟨l, hl, hn⟩
    obtain ⟨i, hi, e⟩ := List.mem_iff_getElem.1 hl
    obtain ⟨l', h1, h2⟩ := hsub i l (by rw [List.getElem?_eq_getElem hi, e])
    simp only [roOk, List.all_eq_true] at hr
    exact hr l' (List.mem_of_getElem? h1) n (h2.2 n hn)
  have hk := (eseq_keeps hs).1
  refine ⟨fun b hb => ?_, fun k hk' => ?_⟩
  · refine (hk (2 * b) fun l hl hn => ?_).1 b rfl
    have := hw (2 * b) ⟨l, hl, hn⟩
    rw [show 2 * b % 2 = 0 from by omega, show 2 * b / 2 = b from by omega] at this
    simp at this
    rw [this] at hb
    cases hb
  · refine (hk (2 * k + 1) fun l hl hn => ?_).2 k rfl
    have := hw (2 * k + 1) ⟨l, hl, hn⟩
    rw [show (2 * k + 1) % 2 = 1 from by omega, show (2 * k + 1) / 2 = k from by omega] at this
    simp at this
    rw [this] at hk'
    cases hk'
end
end Go.Ev
namespace Go.Ev
structure Good (w0 : World) (F R : Nat → Prop) (E : Entry) (bl : Nat → Nat) (nt : Nat) (st : St) (θ : Asg) (w : World) (a : Act) : Prop where
  inv : Inv w0 F R st θ w
  tm : Tm (hp w) R st θ a
  size : a.tmps.size = nt
  defers : a.defers = []
  pins : ∀ p ∈ E.bx, (st.boxes p.1).isSome = true ∧ θ.bx p.1 = bl p.1
section
variable {P : Program} {w0 w : World} {F R : Nat → Prop} {E : Entry} {bl : Nat → Nat} {nt : Nat} {st st' : St} {θ : Asg} {a : Act} {opf : (Operand → TV) → Oper → M TV} {ops : Array Oper} {Q : Exit → Act → World → Prop}
theorem Good.next (h : Good w0 F R E bl nt st θ w a) {θ' : Asg} {w' : World} {a' : Act} (h1 : Inv w0 F R st' θ' w') (h2 : Step R st θ (hp w) st' θ' (hp w')) (h3 : Tm (hp w') R st' θ' a') (h4 : a'.tmps.size = nt) (h5 : a'.defers = a.defers) : Good w0 F R E bl nt st' θ' w' a' :=
  ⟨h1, h3, h4, h5.trans h.defers, fun p hp => by
    obtain ⟨k1, k2⟩ := h.pins p hp
    obtain ⟨j1, j2⟩ := h2.bx p.1 k1
    exact ⟨j1, j2.trans k2⟩⟩
theorem region_plain (hmix : P.follows .mixedOrders = true) (hop : OpsOk P opf w0 F R) (hc : ∀ (ρ ρ' : Operand → TV) (o : Oper), (∀ x ∈ o.op.operands.toList, ρ x = ρ' x) → opf ρ o = opf ρ' o) {id : Nat} {draw : Bool} {R' : Type} {k : St → Option R'} {r : R'}
    (h : regionGo opf ops ops.toList st [] (fun st' ls => cond (!draw || drawOk ops ls.reverse) (k st') none) = some r) (hG : Good w0 F R E bl nt st θ w a) (hdst : ∀ o ∈ ops.toList, ∀ t, o.dst = some t → t < nt)
    (hQ : ∀ st' θ' a' w', k st' = some r → Good w0 F R E bl nt st' θ' w' a' → Q .normal a' w') : (Code.region id ops draw).wp P Q a w := by
  obtain ⟨st', ls, ls', hs, hsub, hk⟩ := regionGo_run _ h
  rw [List.append_nil, List.reverse_reverse] at hk
  cases hd : (!draw || drawOk ops ls') with
  | false => rw [hd] at hk; cases hk
  | true =>
    rw [hd] at hk
    simp only [cond_true] at hk
    exact region_wp hmix hop hc hs hsub (fun e => by rw [e] at hd; simpa using hd) hG.inv hG.tm hG.size hdst fun θ' a' w' h1 h2 h3 h4 h5 => hQ st' θ' a' w' hk (hG.next h1 h2 h3 h4 h5)
theorem region_join (hmix : P.follows .mixedOrders = true) (hop : OpsOk P opf w0 F R) (hc : ∀ (ρ ρ' : Operand → TV) (o : Oper), (∀ x ∈ o.op.operands.toList, ρ x = ρ' x) → opf ρ o = opf ρ' o) {id t : Nat} {draw : Bool} {x : Bool}
    (h : regionGo opf ops ops.toList st [] (fun st' ls => cond (roOk st ls && (!draw || drawOk ops ls.reverse)) (match st'.tmps t with | .one (.b x) => some x | _ => none) none) = some x) (hG : Good w0 F R E bl nt st θ w a) (hdst : ∀ o ∈ ops.toList, ∀ t, o.dst = some t → t < nt)
    (hQ : ∀ θ' a' w', Good w0 F R E bl nt (know (wipe st ops.toList) t x) θ' w' a' → Q .normal a' w') : (Code.region id ops draw).wp P Q a w := by
  obtain ⟨st', ls, ls', hs, hsub, hk⟩ := regionGo_run _ h
  rw [List.append_nil, List.reverse_reverse] at hk
  cases hd : (roOk st ls'.reverse && (!draw || drawOk ops ls')) with
  | false => rw [hd] at hk; cases hk
  | true =>
    rw [hd] at hk
    simp only [cond_true] at hk
    simp only [Bool.and_eq_true] at hd
    have hx : st'.tmps t = .one (.b x) := by
      split at hk
      · rename_i y hy; rw [hy, Option.some.inj hk]
      · cases hk
    have hro : roOk st ls' = true := by
      have := hd.1
      simp only [roOk, List.all_reverse] at this
      exact this
    have hold := old_of hs hsub hro
    obtain ⟨q1, q2, q3⟩ := wipe_spec ops.toList st
    refine region_wp hmix hop hc hs hsub (fun e => by have := hd.2; rw [e] at this; simpa using this) hG.inv hG.tm hG.size hdst fun θ' a' w' h1 h2 h3 h4 h5 => ?_
    obtain ⟨i1, i2⟩ := hG.inv.forget (s2 := know (wipe st ops.toList) t x) h1 h2 hold q1 q2
    refine hQ θ' a' w' (hG.next i1 i2 (fun s => ?_) h4 h5)
    by_cases e : s = t
    · subst e
      have hr := h3 s
      rw [hx] at hr
      simp only [know, upd_same]
      simp only [RelV, RelC] at hr ⊢
      exact hr
    · simp only [know, upd_ne _ _ e]
      rcases q3 s with k | ⟨k1, k2⟩
      · rw [k]; exact relV_undef _
      · rw [k2]
        have hr := h3 s
        rw [(eseq_keeps hs).2 s k1] at hr
        exact RelV.forget (s2 := know (wipe st ops.toList) t x) hold q1 q2 _ _ _ (hG.tm s) hr
end
end Go.Ev
namespace Go.Ev
section
variable {P : Program} {Q : Exit → Act → World → Prop} {a : Act} {w : World}
theorem exists_least {p : Nat → Prop} (h : ∃ k, p k) : ∃ k, p k ∧ ∀ j, p j → k ≤ j := by
  obtain ⟨k, hk⟩ := h
  induction k using Nat.strongRecOn with
  | _ k ih =>
    by_cases hl : ∃ j, j < k ∧ p j
    · obtain ⟨j, h1, h2⟩ := hl
      exact ih j h1 h2
    · exact ⟨k, hk, fun j hj => Classical.byContradiction fun hn => hl ⟨j, by omega, hj⟩⟩
open Classical in
noncomputable def least (J : Nat → Act → World → Prop) (a : Act) (w : World) : Nat := if h : ∃ k, J k a w then Classical.choose (exists_least h) else 0
theorem least_spec {J : Nat → Act → World → Prop} (h : ∃ k, J k a w) : J (least J a w) a w ∧ ∀ j, J j a w → least J a w ≤ j := by
  unfold least
  rw [dif_pos h]
  exact Classical.choose_spec (exists_least h)
theorem loop_wp {c : Code} (J : Nat → Act → World → Prop) {k0 : Nat} (h0 : J k0 a w) (round : ∀ k a w, J k a w → c.wp P (Exit.then (fun a' w' => ∃ k', k' < k ∧ J k' a' w') Q) a w) : (Code.loop c).wp P Q a w := by
  refine wp_loop (I := fun a w => ∃ k, J k a w) (μ := least J) ⟨k0, h0⟩ fun a w h => ?_
  refine wp_mono (round (least J a w) a w (least_spec h).1) fun e a' w' he => ?_
  cases e with
  | normal =>
    obtain ⟨k', hk, hj⟩ := he
    exact ⟨⟨k', hj⟩, Nat.lt_of_le_of_lt ((least_spec ⟨k', hj⟩).2 k' hj) hk⟩
  | _ => exact he
end
theorem typ_untyp : ∀ {cts : List CT} {ds : List DV} {x : InterpA cts}, typ cts ds = some x → untyp cts x = ds
  | [], [], x, h => rfl
  | [], _ :: _, x, h => by simp [typ] at h
  | [c], [], x, h => by simp [typ] at h
  | [c], [d], x, h => by
    simp only [typ] at h
    simp only [untyp]
    rw [← castI_dv h]
  | [c], _ :: _ :: _, x, h => by simp [typ] at h
  | c :: c' :: cs, [], x, h => by simp [typ] at h
  | c :: c' :: cs, d :: ds, x, h => by
    simp only [typ, Option.bind_eq_some_iff] at h
    obtain ⟨y, h1, z, h2, h3⟩ := h
    simp only [Option.some.injEq] at h3
    subst h3
    simp only [untyp]
    rw [typ_untyp h2, ← castI_dv h1]
end Go.Ev
namespace Go.Ev
theorem look_id {m b : Nat} : ∀ {bx : List (Nat × List CK)}, look m (idMap bx) = some b → b = m
  | [], h => by simp [idMap, look] at h
  | (a, ks) :: r, h => by
    simp only [idMap, look] at h
    cases hb : Nat.beq a m with
    | true =>
      rw [hb] at h
      simp only [cond_true, Option.some.injEq] at h
      rw [← h]
      exact Nat.eq_of_beq_eq_true hb
    | false => rw [hb] at h; exact look_id h
structure Rd (w0 : World) (F R : Nat → Prop) (E : Entry) (bl : Nat → Nat) (nt : Nat) (g : Gam) (ds : List DV) (a : Act) (w : World) : Prop where
  size : a.tmps.size = nt
  defers : a.defers = []
  dat : ∃ nal bl' dB dT AB AT θ0, ds = dB ++ dT ∧ Inv w0 F R st0 θ0 w ∧ KBx (hp w) R (Bof bl') nal bl' [] g.boxes dB AB ∧ KTm (hp w) R (Bof bl') nal (fun t => a.tmps.getD t undef) AB g.tmps dT AT ∧
    ((AB ++ AT).fps ++ g.boxes.map fun p => bl' p.1).Nodup ∧ (∀ b ∈ (AB ++ AT).fps ++ g.boxes.map fun p => bl' p.1, F b ∨ w0.heap.size ≤ b) ∧ ∀ p ∈ E.bx, bl' p.1 = bl p.1
section
variable {w0 w : World} {F R : Nat → Prop} {E : Entry} {bl : Nat → Nat} {nt : Nat} {st : St} {θ : Asg} {a : Act} {R' : Type}
theorem step_tm {H : Heap} (st : St) (θ : Asg) (f : Nat → TV) : Step R st θ H { st with tmps := f } θ H :=
  ⟨fun _ _ => rfl, fun _ h => ⟨h, rfl⟩, fun _ => .inl ⟨rfl, fun _ => ⟨rfl, rfl, fun _ _ => rfl⟩⟩⟩
theorem Inv.tm (h : Inv w0 F R st θ w) (f : Nat → TV) : Inv w0 F R { st with tmps := f } θ w :=
  h.next (step_tm st θ f) (Nat.le_refl _) rfl rfl rfl (fun _ _ e => absurd rfl e) (fun b cs hcs => .inl ⟨hcs, rfl⟩) (fun k d hd => .inl ⟨hd, rfl, rfl, fun _ _ => rfl⟩) h.bb h.bo h.oo h.own
theorem unGo_sound {g : Gam} {ds : List DV} {K : St → Option R'} {r : R'} (h : Rd w0 F R E bl nt g ds a w) (hE : ∀ p ∈ E.bx, p.1 ∈ g.boxes.map (·.1)) (hr : unGo g ds K = some r) : ∃ st θ, K st = some r ∧ Good w0 F R E bl nt st θ w a := by
  obtain ⟨nal, bl', dB, dT, AB, AT, θ0, rfl, hI, hkb, hkt, hn, ho, hp'⟩ := h.dat
  unfold unGo at hr
  obtain ⟨f, st1, l0, l', hrun, hK, -, -⟩ := M.go_run _ _ _ _ _ hr
  obtain ⟨f', su, θ', l1, h1, h2, h3, h4⟩ := unSt_sound (bl := bl') (B := Bof bl') (fun _ _ h => h) (fun t => a.tmps.getD t undef) hI hkb hkt hn ho hrun
  obtain ⟨rfl, rfl⟩ := M.ret_run h1
  have hs := step_tm (H := hp w) (R := R) st1 θ' f
  refine ⟨_, θ', hK, h2.tm f, fun t => RelV.step hs _ _ (h3 t), h.size, h.defers, fun p hp => ?_⟩
  obtain ⟨q, hq, e⟩ := List.mem_map.1 (hE p hp)
  obtain ⟨k1, k2⟩ := h4 q hq
  rw [← e]
  refine ⟨k1, k2.trans ?_⟩
  rw [e]
  exact hp' p hp
theorem idMap_look : ∀ {bx : List (Nat × List CK)} {p : Nat × List CK}, p ∈ bx → look p.1 (idMap bx) = some p.1
  | [], p, h => by cases h
  | (a, ks) :: r, p, h => by
    simp only [idMap, look]
    cases hb : Nat.beq a p.1 with
    | true => simp only [cond_true]; rw [Nat.eq_of_beq_eq_true hb]
    | false =>
      rcases List.mem_cons.1 h with rfl | h
      · simp at hb
      · exact idMap_look h
theorem confGo_sound {g : Gam} {K : List DV → Option R'} {r : R'} (hG : Good w0 F R E bl nt st θ w a) (hnd : (g.boxes.map (·.1)).Nodup) (hE : ∀ p ∈ E.bx, p.1 ∈ g.boxes.map (·.1)) (hr : confGo g st K = some r) : ∃ ds, K ds = some r ∧ Rd w0 F R E bl nt g ds a w := by
  unfold confGo at hr
  obtain ⟨ds, st1, l0, l', hrun, hK, -, -⟩ := M.go_run _ _ _ _ _ hr
  unfold confSt at hrun
  have c0 : CInv st θ ⟨[], [], idMap g.boxes, false, []⟩ [] := ⟨fun m n v wv h => by simp [inUsed] at h, fun m b h => .inr rfl, fun m m' b h h' => by rw [← look_id h, ← look_id h']⟩
  obtain ⟨s1, sc1, AB, dB, l1, h, tk1, e1, x1, c1, r1, hbm⟩ := confBoxes_sound hG.inv g.boxes (Took.refl hG.inv) c0 hrun
  obtain ⟨s2, sc2, AT, dT, l2, h, tk2, e2, x2, c2, r2⟩ := confTmps_sound hG.inv (fun t => a.tmps.getD t undef) hG.tm g.tmps tk1 c1 h
  obtain ⟨rfl, rfl⟩ := M.ret_run h
  have hl2 : s2.lent = [] := by rw [x2.nol x1.lend, x1.nol rfl]
  have hRl : ∀ b, Rl R θ s2.lent b → R b := fun b hb => by
    rw [hl2] at hb
    exact hb.resolve_right (by rintro ⟨n, hn, -⟩; cases hn)
  have hlk : ∀ p ∈ g.boxes, look p.1 s2.bm = some p.1 := fun p hp => x2.bm _ _ (x1.bm _ _ (idMap_look hp))
  have hB : ∀ m b, Bl θ s2.bm m b → Bof (blOf θ s2.bm) m b := fun m b ⟨c, h1, h2⟩ => by simp [Bof, blOf, h1, h2]
  have hal : ∀ p ∈ g.boxes, (st.boxes p.1).isSome = true ∧ blOf θ s2.bm p.1 = θ.bx p.1 := fun p hp => by
    obtain ⟨b, h1, h2⟩ := hbm p hp
    rw [x1.bm _ _ (idMap_look hp)] at h1
    cases h1
    exact ⟨h2, by simp [blOf, hlk p hp]⟩
  have e12 : ∀ p ∈ g.boxes, blOf θ s2.bm p.1 = blOf θ s1.bm p.1 := fun p hp => by
    simp [blOf, hlk p hp, x1.bm _ _ (idMap_look hp)]
  have hfp : ([] ++ Env.fps AB) ++ Env.fps AT = Env.fps (AB ++ AT) := by rw [Env.fps_append]; rfl
  rw [hfp] at tk2
  refine ⟨_, hK, hG.size, hG.defers, false, blOf θ s2.bm, dB, dT, AB, AT, θ, ?_, hG.inv.drop θ, ?_, ?_, ?_, ?_, ?_⟩
  · rw [revApp_eq, e2, e1]; simp
  · exact ((r1.mono x2.rl x2.bl).mono hRl hB).ext e12
  · exact r2.mono hRl hB
  · refine List.nodup_append.2 ⟨tk2.nodup, ?_, fun b hb c hc e => ?_⟩
    · rw [List.nodup_iff_pairwise_ne, List.pairwise_map] at hnd ⊢
      refine List.Pairwise.imp_of_mem ?_ hnd
      intro p q hp hq hne heq
      rw [(hal p hp).2, (hal q hq).2] at heq
      exact hne (hG.inv.bb _ _ (hal p hp).1 (hal q hq).1 heq)
    · subst e
      obtain ⟨p, hp, rfl⟩ := List.mem_map.1 hc
      refine tk2.free _ hb (.inl ⟨p.1, by rw [tk2.boxes]; exact (hal p hp).1, ((hal p hp).2).symm⟩)
  · intro b hb
    rcases List.mem_append.1 hb with hb | hb
    · exact hG.inv.own b (tk2.was b hb)
    · obtain ⟨p, hp, rfl⟩ := List.mem_map.1 hb
      exact hG.inv.own _ (.inl ⟨p.1, (hal p hp).1, ((hal p hp).2).symm⟩)
  · intro p hp
    obtain ⟨q, hq, e⟩ := List.mem_map.1 (hE p hp)
    rw [← e, (hal q hq).2, e]
    exact (hG.pins p hp).2
end
end Go.Ev
namespace Go.Ev
def codeOk (nt : Nat) : Code → Bool
  | .region _ ops _ => ops.toList.all fun o => match o.dst with | some t => Nat.blt t nt | none => true
  | .seq a b => codeOk nt a && codeOk nt b
  | .cond _ a b => codeOk nt a && codeOk nt b
  | .block _ c => codeOk nt c
  | .loop c => codeOk nt c
  | _ => true
def gamOk (bx : List (Nat × List CK)) (g : Gam) : Bool := decide ((g.boxes.map (·.1)).Nodup) && bx.all fun p => (g.boxes.map (·.1)).elem p.1
def loopsOk (bx : List (Nat × List CK)) : List (Nat × Gam × Gam × List CT) → Bool
  | [] => true
  | (_, g, h, _) :: r => (gamOk bx g && gamOk bx h) && loopsOk bx r
theorem gamOk_spec {bx : List (Nat × List CK)} {g : Gam} (h : gamOk bx g = true) : (g.boxes.map (·.1)).Nodup ∧ ∀ p ∈ bx, p.1 ∈ g.boxes.map (·.1) := by
  simp only [gamOk, Bool.and_eq_true, List.all_eq_true] at h
  exact ⟨of_decide_eq_true h.1, fun p hp => by simpa using h.2 p hp⟩
theorem loopsOk_spec {bx : List (Nat × List CK)} {id : Nat} {g : Gam × Gam × List CT} : ∀ {l : List (Nat × Gam × Gam × List CT)}, loopsOk bx l = true → lookG id l = some g → gamOk bx g.1 = true ∧ gamOk bx g.2.1 = true
  | [], _, h => by simp [lookG] at h
  | (a, g1, h1, c1) :: r, hl, h => by
    simp only [loopsOk, Bool.and_eq_true] at hl
    simp only [lookG] at h
    cases hb : Nat.beq a id with
    | true =>
      rw [hb] at h
      simp only [cond_true, Option.some.injEq] at h
      subst h
      exact hl.1
    | false =>
      rw [hb] at h
      exact loopsOk_spec hl.2 h
structure KsOk {X R' : Type} (G : St → Asg → World → Act → Prop) (Fin : X → Act → World → Prop) (Q : Exit → Act → World → Prop) (ks : Ks X R') (r : R') : Prop where
  nrm : ∀ st θ w a, ks.nrm st = some r → G st θ w a → Q .normal a w
  exit : ∀ i st θ w a, ks.exit i st = some r → G st θ w a → Q (.exit i) a w
  ret : ∀ st θ w a, ks.ret st = some r → G st θ w a → Q .ret a w
  fin : ∀ x w a, ks.fin x = some r → Fin x a w → Q .ret a w
section
variable {P : Program} {T : TypeId → Option TyI} {w0 : World} {F R : Nat → Prop} {E : Entry} {bl : Nat → Nat} {call : FuncId → List TV → Nat → M TV} {n nt : Nat}
theorem iter_wp {X : Type} {f : (List DV → Option X) → List DV → Option X} {x : X} {body : Code} {Q : Exit → Act → World → Prop} {Rh : List DV → Act → World → Prop}
    (hstep : ∀ self ds a w, f self ds = some x → Rh ds a w → body.wp P (Exit.then (fun a' w' => ∃ ds', self ds' = some x ∧ Rh ds' a' w') Q) a w)
    {id k : Nat} {ds : List DV} {a : Act} {w : World} (h : iter id f k ds = some x) (hR : Rh ds a w) : (Code.loop body).wp P Q a w := by
  refine loop_wp (fun k a w => ∃ ds, iter id f k ds = some x ∧ Rh ds a w) ⟨ds, h, hR⟩ fun k a w hJ => ?_
  obtain ⟨ds, hit, hR⟩ := hJ
  cases k with
  | zero => simp [iter] at hit
  | succ k =>
    simp only [iter] at hit
    refine wp_mono (hstep _ ds a w hit hR) fun e a' w' he => ?_
    cases e with
    | normal => exact ⟨k, Nat.lt_succ_self k, he⟩
    | _ => exact he
theorem dst_of {ops : Array Oper} (h : codeOk nt (.region 0 ops false) = true) : ∀ o ∈ ops.toList, ∀ t, o.dst = some t → t < nt := by
  simp only [codeOk, List.all_eq_true] at h
  intro o ho t ht
  have := h o ho
  rw [ht] at this
  simpa using this
theorem codeGo_sound (hmix : P.follows .mixedOrders = true) (hop : OpsOk P (opM T call) w0 F R) (hl : loopsOk E.bx E.loops = true) {Fin : InterpA E.outC → Act → World → Prop}
    (hfin : ∀ {R' : Type} (ks : Ks (InterpA E.outC) R') (st : St) (θ : Asg) (w : World) (a : Act) (r : R'), finGo T E ks st = some r → Good w0 F R E bl nt st θ w a → ∃ x, ks.fin x = some r ∧ Fin x a w) :
    ∀ (c : Code) {R' : Type} {st : St} {ks : Ks (InterpA E.outC) R'} {r : R'} {θ : Asg} {w : World} {a : Act} {Q : Exit → Act → World → Prop}, codeOk nt c = true → codeGo T call E n c st ks = some r → Good w0 F R E bl nt st θ w a → KsOk (Good w0 F R E bl nt) Fin Q ks r → c.wp P Q a w
  | .skip, R', st, ks, r, θ, w, a, Q, hk, h, hG, hQ => by
    simp only [codeGo] at h
    exact wp_skip (hQ.nrm _ _ _ _ h hG)
  | .region id ops draw, R', st, ks, r, θ, w, a, Q, hk, h, hG, hQ => by
    simp only [codeGo] at h
    have hdst := dst_of (nt := nt) (ops := ops) hk
    split at h
    · rw [Option.bind_eq_some_iff] at h
      obtain ⟨x, h1, h2⟩ := h
      exact region_join hmix hop opM_congr h1 hG hdst fun θ' a' w' hG' => hQ.nrm _ _ _ _ h2 hG'
    · exact region_plain hmix hop opM_congr h hG hdst fun st' θ' a' w' h2 hG' => hQ.nrm _ _ _ _ h2 hG'
  | .seq c d, R', st, ks, r, θ, w, a, Q, hk, h, hG, hQ => by
    simp only [codeGo] at h
    simp only [codeOk, Bool.and_eq_true] at hk
    refine wp_seq (codeGo_sound hmix hop hl hfin c hk.1 h hG ⟨fun st θ w a h hG => ?_, fun i st θ w a h hG => hQ.exit i st θ w a h hG, fun st θ w a h hG => hQ.ret st θ w a h hG, fun x w a h hF => hQ.fin x w a h hF⟩)
    exact codeGo_sound hmix hop hl hfin d hk.2 h hG hQ
  | .cond c d e, R', st, ks, r, θ, w, a, Q, hk, h, hG, hQ => by
    simp only [codeOk, Bool.and_eq_true] at hk
    cases c with
    | tmp t =>
      simp only [codeGo] at h
      split at h
      · rename_i x hx
        have hr := hG.tm t
        rw [hx] at hr
        simp only [RelV, RelC] at hr
        have hev : a.eval (.tmp t) = .bool x := hr.1
        cases x with
        | true =>
          simp only [cond_true] at h
          rw [know_eq hx] at h
          exact wp_cond_true hev (codeGo_sound hmix hop hl hfin d hk.1 h hG hQ)
        | false =>
          simp only [cond_false] at h
          rw [know_eq hx] at h
          exact wp_cond_false hev (codeGo_sound hmix hop hl hfin e hk.2 h hG hQ)
      · cases h
    | const _ => simp [codeGo] at h
    | global _ => simp [codeGo] at h
    | func _ => simp [codeGo] at h
  | .block id c, R', st, ks, r, θ, w, a, Q, hk, h, hG, hQ => by
    by_cases hlp : ∃ body, c = .loop body
    · obtain ⟨body, rfl⟩ := hlp
      simp only [codeGo] at h
      split at h
      · rename_i g hh hc hlk
        obtain ⟨ok1, ok2⟩ := loopsOk_spec hl hlk
        have ok1 := gamOk_spec ok1
        have ok2 := gamOk_spec ok2
        obtain ⟨ds, h, hR⟩ := confGo_sound hG ok1.1 ok1.2 h
        rw [Option.bind_eq_some_iff] at h
        obtain ⟨x, hit, hx⟩ := h
        refine wp_block (iter_wp (Rh := Rd w0 F R E bl nt g) (fun self ds a w hs hR => ?_) hit hR)
        obtain ⟨st1, θ1, h1, hG1⟩ := unGo_sound hR ok1.2 hs
        have hfin' : ∀ (f : InterpA E.outC) (a : Act) (w : World), x = .inr f → Fin f a w → Q .ret a w := fun f a w e hf => by
          subst e
          exact hQ.fin _ _ _ hx hf
        refine codeGo_sound hmix hop hl hfin body (by simpa only [codeOk] using hk) h1 hG1 ⟨fun st θ w a h hG => ?_, fun i st θ w a h hG => ?_, fun st θ w a h hG => ?_, fun f w a h hf => ?_⟩
        · exact confGo_sound hG ok1.1 ok1.2 h
        · simp only at h
          cases hb : Nat.beq i id with
          | false => rw [hb] at h; cases h
          | true =>
            rw [hb] at h
            simp only [cond_true] at h
            obtain ⟨ds, h, hR⟩ := confGo_sound hG ok2.1 ok2.2 h
            rw [Option.bind_eq_some_iff] at h
            obtain ⟨y, hy, h⟩ := h
            cases h
            simp only [sumE] at hx
            rw [typ_untyp hy] at hx
            obtain ⟨st2, θ2, h2, hG2⟩ := unGo_sound hR ok2.2 hx
            simp only [Exit.then, Exit.inBlock, Nat.eq_of_beq_eq_true hb, if_true]
            exact hQ.nrm _ _ _ _ h2 hG2
        · obtain ⟨f, hf, hF⟩ := hfin _ _ _ _ _ _ h hG
          simp only [Option.some.injEq] at hf
          exact hfin' f a w hf.symm hF
        · simp only [Option.some.injEq] at h
          exact hfin' f a w h.symm hf
      · cases h
    · have h' : codeGo T call E n c st { ks with exit := fun i st => cond (Nat.beq i id) (ks.nrm st) (ks.exit i st) } = some r := by
        cases c <;> first | (exact absurd ⟨_, rfl⟩ hlp) | (simpa only [codeGo] using h)
      simp only [codeOk] at hk
      refine wp_block (codeGo_sound hmix hop hl hfin c hk h' hG ⟨fun st θ w a h hG => hQ.nrm st θ w a h hG, fun i st θ w a h hG => ?_, fun st θ w a h hG => hQ.ret st θ w a h hG, fun x w a h hF => hQ.fin x w a h hF⟩)
      simp only [Exit.inBlock]
      simp only at h
      cases hb : Nat.beq i id with
      | true =>
        rw [hb] at h
        rw [if_pos (Nat.eq_of_beq_eq_true hb)]
        exact hQ.nrm _ _ _ _ h hG
      | false =>
        rw [hb] at h
        rw [if_neg (Nat.ne_of_beq_eq_false hb)]
        exact hQ.exit _ _ _ _ _ h hG
  | .exit id, R', st, ks, r, θ, w, a, Q, hk, h, hG, hQ => by
    simp only [codeGo] at h
    exact wp_exit (hQ.exit _ _ _ _ _ h hG)
  | .ret, R', st, ks, r, θ, w, a, Q, hk, h, hG, hQ => by
    simp only [codeGo] at h
    exact wp_ret (hQ.ret _ _ _ _ h hG)
  | .loop _, R', st, ks, r, θ, w, a, Q, hk, h, hG, hQ => by simp [codeGo] at h
  | .rangeFunc _ _ _ _, R', st, ks, r, θ, w, a, Q, hk, h, hG, hQ => by simp [codeGo] at h
  | .scope _, R', st, ks, r, θ, w, a, Q, hk, h, hG, hQ => by simp [codeGo] at h
  | .label _, R', st, ks, r, θ, w, a, Q, hk, h, hG, hQ => by simp [codeGo] at h
  | .goto _, R', st, ks, r, θ, w, a, Q, hk, h, hG, hQ => by simp [codeGo] at h
  | .refuse _, R', st, ks, r, θ, w, a, Q, hk, h, hG, hQ => by simp [codeGo] at h
termination_by c => SizeOf.sizeOf c
end
end Go.Ev
namespace Go.Ev
section
variable {P : Program} {T : TypeId → Option TyI} {w0 w : World} {F R : Nat → Prop} {si st : St} {θ : Asg} {a : Act} {β : Type} {y : β}
def readRes (tmps : Array Value) : ResultVar → Sem Value
  | .tmp t => pure (tmps.getD t undef)
  | .cell a t => do loadVar t (← asAddr (tmps.getD a undef))
theorem resM_sound (hok : Ok P T) (hI : Inv w0 F R st θ w) (hT : Tm (hp w) R st θ a) : ∀ (rs : List ResultVar) {k : List TV → M (List DV)} {z : List DV} {st' : St} {l : Log}, (resM T rs st k).run st = some (z, st', l) →
    ∃ vs us l1, (k vs).run st = some (z, st', l1) ∧ RelVs (hp w) R st θ vs us ∧ (rs.mapM (readRes a.tmps)).run P w = .ok us w
  | [], k, z, st', l, h => by
    simp only [resM] at h
    exact ⟨[], [], l, h, by simp [RelVs], by simp⟩
  | .tmp t :: rs, k, z, st', l, h => by
    simp only [resM] at h
    obtain ⟨vs, us, l1, h1, h2, h3⟩ := resM_sound hok hI hT rs h
    exact ⟨_, a.tmps.getD t undef :: us, l1, h1, by simp only [RelVs]; exact ⟨_, _, rfl, hT t, h2⟩, by simp [List.mapM_cons, readRes, h3]⟩
  | .cell c ty :: rs, k, z, st', l, h => by
    simp only [resM] at h
    cases hi : T ty with
    | none => simp [hi, M.run] at h
    | some i =>
      simp only [hi] at h
      split at h
      · rename_i b off hx
        obtain ⟨cs, l1, hb, h⟩ := M.rb_run h
        obtain ⟨hg, h⟩ := M.gd_run h
        have hg := Nat.le_of_ble_eq_true hg
        obtain ⟨vs, us, l1, h1, h2, h3⟩ := resM_sound hok hI hT rs h
        have hr := hT c
        rw [hx] at hr
        simp only [RelV, RelC] at hr
        obtain ⟨arr, tyb, frz, k1, k2, k3⟩ := hI.boxes b cs hb
        have hlen := k3.length
        obtain ⟨u, q1, q2⟩ := loadVar_run (P := P) (hok.tys ty i hi) k1 (off := off) (by simp at hlen; omega)
        refine ⟨_, u :: us, l1, h1, ?_, ?_⟩
        · simp only [RelVs]
          exact ⟨_, _, rfl, mkTV_rel ((k3.drop off).take i.size) q2, h2⟩
        · simp [List.mapM_cons, readRes, hr.1.2, asAddr, q1, h3]
      · simp [M.run] at h
def oneOr : List Value → Value
  | [u] => u
  | us => .tuple us.toArray
theorem results_run {fn : Func} {us : List Value} (h : (fn.results.toList.mapM (readRes a.tmps)).run P w = .ok us w) : (results fn a.tmps).run P w = .ok (oneOr us) w := by
  have e : results fn a.tmps = (fn.results.mapM (readRes a.tmps) >>= fun vs => pure (if h : vs.size = 1 then vs[0] else .tuple vs)) := by
    unfold results
    congr 1
  rw [e]
  simp only [Array.mapM_eq_mapM_toList, Sem.run_bind, Sem.run_map, h, Result.andThen_ok]
  match us with
  | [] => simp [oneOr]
  | [u] => simp [oneOr]
  | u :: v :: us => simp [oneOr]
theorem tvOf_rel {H : Heap} : ∀ {vs : List TV} {us : List Value}, RelVs H R st θ vs us → RelV H R st θ (tvOf vs) (oneOr us)
  | [], us, h => by
    simp only [RelVs] at h
    subst h
    simp only [tvOf, RelV, RelVs, oneOr]
    exact ⟨#[], rfl, rfl⟩
  | [v], us, h => by
    simp only [RelVs] at h
    obtain ⟨u, us', rfl, h1, rfl⟩ := h
    exact h1
  | v :: v' :: vs, us, h => by
    have h' := h
    simp only [RelVs] at h'
    obtain ⟨u, us1, rfl, h1, u', us2, rfl, h2, h3⟩ := h'
    simp only [tvOf, RelV, oneOr]
    exact ⟨(u :: u' :: us2).toArray, rfl, h⟩
theorem zipB_mem : ∀ {bx : List (Nat × List CK)} {bxo : List (List CK)} {p : Nat × List CK}, p ∈ zipB bx bxo → ∃ q ∈ bx, q.1 = p.1
  | [], _, p, h => by simp [zipB] at h
  | _ :: _, [], p, h => by simp [zipB] at h
  | (m, ks) :: bx, ko :: bxo, p, h => by
    simp only [zipB, List.mem_cons] at h
    rcases h with rfl | h
    · exact ⟨(m, ks), by simp, rfl⟩
    · obtain ⟨q, h1, h2⟩ := zipB_mem h
      exact ⟨q, by simp [h1], h2⟩
theorem outBoxes_sound {z : List DV} (hI : Inv w0 F R si θ w) : ∀ (bx : List (Nat × List CK)) (bxo : List (List CK)) {sc st' : St} {l : Log} {fps : List Nat} {s : CS} {L : Env} {K : CS → M (List DV)}, Took w0 F R θ w si sc fps → CInv si θ s L →
    (outBoxes bx bxo s K).run sc = some (z, st', l) → ConfRes w0 F R θ w si fps s L K z st' (fun s' ds A => KBx (hp w) (Rl R θ s'.lent) (Bl θ s'.bm) false θ.bx L (zipB bx bxo) ds A)
  | [], [], sc, st', l, fps, s, L, K, tk, hc, h => by
    simp only [outBoxes] at h
    exact conf_same tk hc h (by simp only [zipB, KBx]; exact ⟨trivial, trivial⟩)
  | [], _ :: _, sc, st', l, fps, s, L, K, tk, hc, h => by simp [outBoxes, M.run] at h
  | _ :: _, [], sc, st', l, fps, s, L, K, tk, hc, h => by simp [outBoxes, M.run] at h
  | (m, k0) :: rest, ks :: bxo, sc, st', l, fps, s, L, K, tk, hc, h => by
    simp only [outBoxes] at h
    obtain ⟨cs, l1, hcs, h⟩ := M.rb_run h
    rw [tk.boxes] at hcs
    obtain ⟨arr, ty, frz, k1, k2, k3⟩ := hI.boxes m cs hcs
    obtain ⟨s1, sc1, A1, d1, l1, h, tk1, e1, x1, c1, r1⟩ := confCs_sound hI ks tk hc k3 h
    obtain ⟨s2, sc2, A2, d2, l2, h, tk2, e2, x2, c2, r2⟩ := outBoxes_sound hI rest bxo tk1 c1 h
    refine ⟨s2, sc2, A1 ++ A2, d1 ++ d2, l2, h, by rw [Env.fps_append, ← List.append_assoc]; exact tk2, by rw [e2, e1]; simp, x1.trans x2, by rw [← List.append_assoc]; exact c2, ?_⟩
    simp only [zipB, KBx]
    exact ⟨arr, ty, frz, d1, d2, A1, A2, rfl, rfl, k1, k2, r1.mono x2.rl x2.bl, r2⟩
theorem KRels.okB : ∀ {bx : List (Nat × List CK)} {bxo : List (List CK)}, bxo.all (okKs false) = true → okB false (zipB bx bxo) = true
  | [], _, _ => by simp [zipB, Ev.okB]
  | _ :: _, [], _ => by simp [zipB, Ev.okB]
  | (m, _) :: bx, ks :: bxo, h => by
    simp only [List.all_cons, Bool.and_eq_true] at h
    simp only [zipB, Ev.okB, Bool.and_eq_true]
    exact ⟨h.1, KRels.okB h.2⟩
def FinOk (P : Program) (E : Entry) (w0 : World) (F R : Nat → Prop) (bl : Nat → Nat) (x : InterpA E.outC) (a : Act) (w : World) : Prop :=
  a.defers = [] ∧ ∃ u, (results E.fn a.tmps).run P w = .ok u w ∧ OutOk E w0 w F R bl x u
theorem fin_sound {E : Entry} {bl : Nat → Nat} {nt : Nat} (hok : Ok P T) (hE : entryOk E = true) {R' : Type} (ks : Ks (InterpA E.outC) R') (st : St) (θ : Asg) (w : World) (a : Act) (r : R') (h : finGo T E ks st = some r) (hG : Good w0 F R E bl nt st θ w a) :
    ∃ x, ks.fin x = some r ∧ FinOk P E w0 F R bl x a w := by
  unfold finGo at h
  obtain ⟨ds, st1, l0, l', hrun, hK, -, -⟩ := M.go_run _ _ _ _ _ h
  rw [Option.bind_eq_some_iff] at hK
  obtain ⟨x, hx, hK⟩ := hK
  unfold finM at hrun
  obtain ⟨vs, us, l1, h1, hrel, hres⟩ := resM_sound (P := P) hok hG.inv hG.tm _ hrun
  have c0 : CInv st θ ⟨[], [], [], false, []⟩ [] := ⟨fun m n v wv h => by simp [inUsed] at h, fun m b h => .inr rfl, fun m m' b h h' => by simp [look] at h⟩
  obtain ⟨s1, sc1, A1, d1, l2, h2, tk1, e1, x1, c1, r1⟩ := confTV_sound hG.inv E.outs (Took.refl hG.inv) c0 (tvOf_rel hrel) h1
  obtain ⟨s2, sc2, A2, d2, l3, h3, tk2, e2, x2, c2, r2⟩ := outBoxes_sound hG.inv E.bx E.bxo tk1 c1 h2
  obtain ⟨rfl, rfl⟩ := M.ret_run h3
  have hl2 : s2.lent = [] := by rw [x2.nol x1.lend, x1.nol rfl]
  have hRl : ∀ b, Rl R θ s2.lent b → R b := fun b hb => by
    rw [hl2] at hb
    exact hb.resolve_right (by rintro ⟨n, hn, -⟩; cases hn)
  simp only [entryOk, Bool.and_eq_true] at hE
  obtain ⟨ok1, ok2, ok3, ok4, ok5, ok6⟩ := hE
  have ok5 := of_decide_eq_true ok5
  have hfp : ([] ++ Env.fps A1) ++ Env.fps A2 = Env.fps (A1 ++ A2) := by rw [Env.fps_append]; rfl
  rw [hfp] at tk2
  have k1 := (r1.mono x2.rl x2.bl).mono hRl (fun _ _ h => h)
  have k2 := r2.mono hRl (fun _ _ h => h)
  refine ⟨x, hK, hG.defers, _, results_run hres, hG.inv.size, hG.inv.same, hG.inv.os, hG.inv.tape, hG.inv.out, d1, A1, d2, A2, ?_, KRelV.up (pb := false) (fun e => by cases e) ok3 k1, ?_, ?_, ?_⟩
  · rw [typ_untyp hx, revApp_eq, e2, e1]; simp
  · refine KBx.ext (bl := θ.bx) (fun p hp => ?_) (KBx.up (pb := false) (fun e => by cases e) (KRels.okB ok4) k2)
    obtain ⟨q, hq, e⟩ := zipB_mem hp
    rw [← e]
    exact ((hG.pins q hq).2).symm
  · refine List.nodup_append.2 ⟨tk2.nodup, ?_, fun b hb c hc e => ?_⟩
    · rw [List.nodup_iff_pairwise_ne, List.pairwise_map] at ok5 ⊢
      refine List.Pairwise.imp_of_mem ?_ ok5
      intro p q hp hq hne heq
      rw [← (hG.pins p hp).2, ← (hG.pins q hq).2] at heq
      exact hne (hG.inv.bb _ _ (hG.pins p hp).1 (hG.pins q hq).1 heq)
    · subst e
      obtain ⟨p, hp, rfl⟩ := List.mem_map.1 hc
      exact tk2.free _ hb (.inl ⟨p.1, by rw [tk2.boxes]; exact (hG.pins p hp).1, (hG.pins p hp).2⟩)
  · intro b hb
    exact hG.inv.own b (tk2.was b hb)
theorem Inv.init (hR : ∀ b, R b → b < w.heap.size ∧ ¬ F b) (θ : Asg) : Inv w F R st0 θ w :=
  ⟨Nat.le_refl _, fun _ _ _ => rfl, rfl, rfl, rfl, hR, fun b cs h => by simp [st0] at h, fun k d h => by simp [st0] at h, fun b b' h => by simp [st0] at h, fun b k h => by simp [st0] at h, fun k k' g h => by simp [st0] at h, fun g h => by
    rcases h with ⟨b, h, -⟩ | ⟨k, h, -⟩ <;> simp [st0] at h⟩
def fnOk (E : Entry) : Bool := (match E.fn.body with | some c => codeOk E.fn.ntmps c | none => true) && (loopsOk E.bx E.loops && Nat.ble E.ins.length E.fn.ntmps)
theorem fnGo_sound {E : Entry} {call : FuncId → List TV → Nat → M TV} {n : Nat} (hok : Ok P T) (hmix : P.follows .mixedOrders = true) {gl : Glob} (hop : ∀ w0 F R, GOk gl w0 F → OpsOk P (opM T call) w0 F R) (hE : entryOk E = true) (hfn : fnOk E = true) (hP : P.funcs[E.f]? = some E.fn)
    {ds : List DV} {r : InterpA E.outC} (h : fnGo T call E n ds = some r) : Contract P gl E ds r := by
  intro w F R bl args dB dA AB AA hds hsz hin
  unfold fnGo at h
  split at h
  · rename_i c hbody
    simp only [fnOk, hbody, Bool.and_eq_true] at hfn
    obtain ⟨f1, f2, f3⟩ := hfn
    have f3 := Nat.le_of_ble_eq_true f3
    have hE' := hE
    simp only [entryOk, Bool.and_eq_true] at hE'
    have ok5 := of_decide_eq_true hE'.2.2.2.2.1
    refine calls_of_wp hP hbody ?_
    have hsame : ∀ t, (args ++ Array.replicate (E.fn.ntmps - args.size) undef).getD t undef = args.getD t undef := fun t => by
      simp only [Array.getD_eq_getD_getElem?, Array.getElem?_append]
      split
      · rfl
      · rename_i hlt
        rw [Array.getElem?_eq_none (xs := args) (by omega)]
        simp only [Array.getElem?_replicate]
        split <;> rfl
    have hRd : Rd w F R E bl E.fn.ntmps ⟨gamOf 0 E.ins, E.bx⟩ ds { tmps := args ++ Array.replicate (E.fn.ntmps - args.size) undef, defers := [] } w := by
      refine ⟨by simp; omega, rfl, true, bl, dB, dA, AB, AA, ⟨bl, fun _ => undef, fun _ => []⟩, hds, Inv.init hin.rd _, hin.kb, ?_, hin.nd, fun b hb => .inl (hin.own b hb), fun _ _ => rfl⟩
      simp only [hsame]
      exact hin.kt
    obtain ⟨st, θ, h1, hG⟩ := unGo_sound hRd (fun p hp => List.mem_map.2 ⟨p, hp, rfl⟩) h
    have hpost : ∀ (x : InterpA E.outC) (a : Act) (w' : World), x = r → FinOk P E w F R bl x a w' → a.defers = [] ∧ ∃ v, (results E.fn a.tmps).run P w' = .ok v w' ∧ OutOk E w w' F R bl r v := fun x a w' e hf => by
      subst e; exact hf
    refine codeGo_sound (E := E) (Fin := FinOk P E w F R bl) hmix (hop w F R hin.gl) f2 (fun ks st θ w a r h hG => fin_sound hok hE ks st θ w a r h hG) c f1 h1 hG ⟨fun st θ w a h hG => ?_, fun i st θ w a h hG => ?_, fun st θ w a h hG => ?_, fun x w a h hf => ?_⟩
    · obtain ⟨x, hx, hF⟩ := fin_sound hok hE _ _ _ _ _ _ h hG
      exact hpost x a w (Option.some.inj hx) hF
    · simp [ksTop] at h
    · obtain ⟨x, hx, hF⟩ := fin_sound hok hE _ _ _ _ _ _ h hG
      exact hpost x a w (Option.some.inj hx) hF
    · exact hpost x a w (Option.some.inj h) hf
  · cases h
structure TabOk (P : Program) (gl : Glob) (T : TypeId → Option TyI) (tab : Nat → Entry) : Prop where
  ok : Ok P T
  mix : P.follows .mixedOrders = true
  entry : ∀ e, entryOk (tab e) = true
  fn : ∀ e, fnOk (tab e) = true
  f : ∀ e, P.funcs[(tab e).f]? = some (tab e).fn
  name : ∀ e, ((tab e).fn.name == "runtime.NumGoroutine") = false
  body : ∀ e, (tab e).fn.body.isNone = false
  prim : ∀ e p, (tab e).prim = some p → ∀ ds r, p ds = some r → Contract P gl (tab e) ds r
theorem D_sound {tab : Nat → Entry} {cands : FuncId → List Nat} {gl : Glob} (h : TabOk P gl T tab) : ∀ (n e : Nat) (ds : List DV) (r : InterpA (tab e).outC), D T tab cands n e ds = some r → Contract P gl (tab e) ds r
  | 0, e, ds, r, hr => by simp [D] at hr
  | n + 1, e, ds, r, hr => by
    simp only [D] at hr
    split at hr
    · rename_i p hp
      exact h.prim e p hp ds r hr
    · refine fnGo_sound h.ok h.mix (fun w0 F R hgl => ?_) (h.entry e) (h.fn e) (h.f e) hr
      intro st st' θ w a o v l hI hT hrun
      exact opM_sound h.ok hgl (D_sound h n) h.entry (fun e => ⟨(tab e).fn, h.f e, h.name e, h.body e⟩) hI hT hrun
end
end Go.Ev
namespace Go.Ev
def lookT (t : TypeId) : List (TypeId × TyI) → Option TyI
  | [] => none
  | (a, i) :: r => cond (Nat.beq a t) (some i) (lookT t r)
def fieldsB (P : Program) : List Field → List (Nat × TypeId) → Bool
  | [], [] => true
  | f :: fs, (off, t) :: r => Nat.beq f.offset off && (Nat.beq f.type t && ((match P.info? t with | some inf => !(Nat.beq inf.size 0) | none => false) && fieldsB P fs r))
  | _, _ => false
def uOkB (P : Program) (t : TypeId) : U → Bool
  | .bool => match P.underlying t with | some .bool => true | _ => false
  | .int k => match P.underlying t with | some (.int k') => decide (k' = k) | _ => false
  | .str => match P.underlying t with | some .string => true | _ => false
  | .slice e => match P.underlying t with | some (.slice e') => Nat.beq e' e | _ => false
  | .struct fs => match P.underlying t with | some (.struct fields) => fieldsB P fields.toList fs | _ => false
  | .ptr => match P.underlying t with | some (.pointer _) => true | _ => false
  | .func => match P.underlying t with | some (.func _ _ _) => true | _ => false
  | .iface => match P.underlying t with | some (.interface _) => true | _ => false
  | .other => false
def zOkB (u : U) (z : Value) : Bool := match u, z with
  | .struct _, .agg _ => true
  | .struct _, _ => false
  | _, z => one1 z
def infB (P : Program) (t : TypeId) (i : TyI) : Bool := match P.info? t with
  | some inf => Nat.beq inf.size i.size && (Nat.beq inf.bytes i.bytes && (match inf.zero with | some z => zerosOk i.zero z.cells.toList && zOkB i.u z | none => false))
  | none => false
def elB (P : Program) (e : TypeId) (c : CT) : Bool := match P.info? e with
  | some inf => Nat.beq inf.size (elemTs c).size && (Nat.ble inf.bytes 1024 && ((match inf.zero with | some z => zeroVs (elemTs c) z.cells.toList | none => false) &&
      (match elemTs c with | .one (.int .u8) => (match P.underlying e with | some (.int .u8) => true | _ => false) | _ => true)))
  | none => false
def slB (P : Program) (i : TyI) : Bool := match i.cts, i.u with
  | some (.one c), .slice e => !isSl c || elB P e c
  | _, _ => true
def eqB (i : TyI) : Bool := !i.eq
def tyOkB (P : Program) (t : TypeId) (i : TyI) : Bool :=
  infB P t i && (uOkB P t i.u && (slB P i && ((match i.u with | .struct _ => true | _ => Nat.beq i.size 1) && eqB i)))
theorem fieldsB_spec {P : Program} : ∀ {fs : List Field} {r : List (Nat × TypeId)}, fieldsB P fs r = true → fs.length = r.length ∧ ∀ (i off : Nat) (t : TypeId), r[i]? = some (off, t) → ∃ f : Field, fs[i]? = some f ∧ f.offset = off ∧ f.type = t ∧ ∃ inf, P.info? t = some inf ∧ inf.size ≠ 0
  | [], [], _ => ⟨rfl, by simp⟩
  | [], _ :: _, h => by simp [fieldsB] at h
  | _ :: _, [], h => by simp [fieldsB] at h
  | f :: fs, (off, t) :: r, h => by
    simp only [fieldsB, Bool.and_eq_true] at h
    obtain ⟨h1, h2, h3, h4⟩ := h
    obtain ⟨k1, k2⟩ := fieldsB_spec h4
    refine ⟨by simp [k1], fun i o u hi => ?_⟩
    cases i with
    | zero =>
      simp only [List.getElem?_cons_zero, Option.some.injEq, Prod.mk.injEq] at hi
      obtain ⟨rfl, rfl⟩ := hi
      refine ⟨f, rfl, Nat.eq_of_beq_eq_true h1, Nat.eq_of_beq_eq_true h2, ?_⟩
      split at h3
      · rename_i inf hinf
        exact ⟨inf, hinf, fun e => by rw [e] at h3; simp at h3⟩
      · cases h3
    | succ i => exact k2 i o u (by simpa using hi)
theorem uOkB_spec {P : Program} {t : TypeId} {u : U} (h : uOkB P t u = true) : UOk P t u := by
  cases u <;> simp only [uOkB] at h <;> simp only [UOk]
  case bool => split at h <;> simp_all
  case int k => split at h <;> simp_all
  case str => split at h <;> simp_all
  case slice e =>
    split at h
    · rename_i e' he; rw [he, Nat.eq_of_beq_eq_true h]
    · cases h
  case struct fs =>
    split at h
    · rename_i fields hf
      obtain ⟨h1, h2⟩ := fieldsB_spec h
      refine ⟨fields, hf, by simpa using h1, fun i off t hi => ?_⟩
      obtain ⟨f, k1, k2⟩ := h2 i off t hi
      exact ⟨f, by simpa using k1, k2⟩
    · cases h
  case ptr =>
    split at h
    · rename_i e he; exact ⟨e, he⟩
    · cases h
  case func =>
    split at h
    · rename_i a b c he; exact ⟨a, b, c, he⟩
    · cases h
  case iface =>
    split at h
    · rename_i e he; exact ⟨e, he⟩
    · cases h
  case other => cases h
theorem tyOkB_spec {P : Program} {T : TypeId → Option TyI} {t : TypeId} {i : TyI} (h : tyOkB P t i = true) : TyOk P T t i := by
  simp only [tyOkB, Bool.and_eq_true] at h
  obtain ⟨h1, h2, h3, h4, h5⟩ := h
  refine ⟨?_, uOkB_spec h2, fun c hc hs e he => ?_, ?_, fun he => ?_⟩
  · unfold infB at h1
    split at h1
    · rename_i inf hinf
      simp only [Bool.and_eq_true] at h1
      obtain ⟨k1, k2, k3⟩ := h1
      split at k3
      · rename_i z hz
        simp only [Bool.and_eq_true] at k3
        refine ⟨inf, z, hinf, Nat.eq_of_beq_eq_true k1, Nat.eq_of_beq_eq_true k2, hz, k3.1, ?_⟩
        have k := k3.2
        unfold zOkB at k
        cases hu : i.u <;> rw [hu] at k <;> cases z <;> simp_all
      · cases k3
    · cases h1
  · unfold slB at h3
    rw [hc, he] at h3
    simp only [hs, Bool.not_true, Bool.false_or] at h3
    unfold elB at h3
    split at h3
    · rename_i inf hinf
      simp only [Bool.and_eq_true] at h3
      obtain ⟨k1, k2, k3, k4⟩ := h3
      split at k3
      · rename_i z hz
        refine ⟨inf, z, hinf, Nat.eq_of_beq_eq_true k1, Nat.le_of_ble_eq_true k2, hz, k3, ?_⟩
        split
        · rename_i heq
          rw [heq] at k4
          simp only at k4
          split at k4
          · assumption
          · cases k4
        · trivial
      · cases k3
    · cases h3
  · split
    · trivial
    · split at h4
      · rename_i h _ _ hh; exact absurd hh (h _)
      · exact Nat.eq_of_beq_eq_true h4
  · rw [eqB, he] at h5; cases h5
def tysB (P : Program) : List (TypeId × TyI) → Bool
  | [] => true
  | (t, i) :: r => tyOkB P t i && tysB P r
theorem tysB_spec {P : Program} {T : TypeId → Option TyI} {t : TypeId} {i : TyI} : ∀ {l : List (TypeId × TyI)}, tysB P l = true → lookT t l = some i → TyOk P T t i
  | [], _, h => by simp [lookT] at h
  | (a, j) :: r, h, hl => by
    simp only [tysB, Bool.and_eq_true] at h
    simp only [lookT] at hl
    cases hb : Nat.beq a t with
    | true =>
      rw [hb] at hl
      simp only [cond_true, Option.some.injEq] at hl
      subst hl
      rw [← Nat.eq_of_beq_eq_true hb]
      exact tyOkB_spec h.1
    | false => rw [hb] at hl; exact tysB_spec h.2 hl
end Go.Ev
namespace Go.Ev
def tabOf : List Entry → Entry → Nat → Entry
  | [], d, _ => d
  | x :: _, _, 0 => x
  | _ :: r, d, n + 1 => tabOf r d n
theorem tabOf_all {p : Entry → Prop} {d : Entry} (hd : p d) : ∀ (l : List Entry) (_ : ∀ x ∈ l, p x) (e : Nat), p (tabOf l d e)
  | [], _, _ => hd
  | x :: _, h, 0 => h x (by simp)
  | _ :: r, h, n + 1 => tabOf_all hd r (fun x hx => h x (by simp [hx])) n
def lookC (f : FuncId) : List (FuncId × List Nat) → List Nat
  | [] => []
  | (a, l) :: r => cond (Nat.beq a f) l (lookC f r)
structure EntOk (P : Program) (E : Entry) : Prop where
  entry : entryOk E = true
  fn : fnOk E = true
  f : P.funcs[E.f]? = some E.fn
  name : (E.fn.name == "runtime.NumGoroutine") = false
  body : E.fn.body.isNone = false
structure Ents (P : Program) (l : List Entry) : Prop where
  ok : ∀ x ∈ l, EntOk P x
theorem Ents.nil {P : Program} : Ents P [] := ⟨by simp⟩
theorem Ents.cons {P : Program} {x : Entry} {l : List Entry} (h : EntOk P x) (hl : Ents P l) : Ents P (x :: l) := ⟨fun y hy => by
  rcases List.mem_cons.1 hy with rfl | hy
  · exact h
  · exact hl.ok y hy⟩
theorem tabOk_of {P : Program} {gl : Glob} {tys : List (TypeId × TyI)} {l : List Entry} {d : Entry} (hmix : P.follows .mixedOrders = true) (hty : tysB P tys = true) (hd : EntOk P d) (hl : Ents P l)
    (hp : ∀ x ∈ d :: l, ∀ p, x.prim = some p → ∀ ds r, p ds = some r → Contract P gl x ds r) : TabOk P gl (fun t => lookT t tys) (tabOf l d) :=
  have all : ∀ e, EntOk P (tabOf l d e) := tabOf_all hd l hl.ok
  ⟨⟨fun _ _ h => tysB_spec hty h, hmix⟩, hmix, fun e => (all e).entry, fun e => (all e).fn, fun e => (all e).f, fun e => (all e).name, fun e => (all e).body,
    fun e => tabOf_all (p := fun x => ∀ p, x.prim = some p → ∀ ds r, p ds = some r → Contract P gl x ds r) (hp d (by simp)) l (fun x hx => hp x (by simp [hx])) e⟩
noncomputable def loopBody : Code → Nat → Code
  | .seq a b, id => match loopBody a id with | .skip => loopBody b id | c => c
  | .cond _ a b, id => match loopBody a id with | .skip => loopBody b id | c => c
  | .block i (.loop c), id => cond (Nat.beq i id) c (loopBody c id)
  | .block _ c, id => loopBody c id
  | _, _ => .skip
noncomputable def loopStep (T : TypeId → Option TyI) (call : FuncId → List TV → Nat → M TV) (e : Entry) (n id : Nat) (x : Gam × Gam × List CT) (self : List DV → Option (Sum (InterpA x.2.2) (InterpA e.outC))) (ds : List DV) : Option (Sum (InterpA x.2.2) (InterpA e.outC)) :=
  unGo x.1 ds fun st => codeGo T call e n (loopBody (e.fn.body.getD .skip) id) st
    ⟨fun st => confGo x.1 st self, fun i st => cond (Nat.beq i id) (confGo x.2.1 st fun ds => (typ x.2.2 ds).bind fun x => some (.inl x)) none,
     fun st => finGo T e ⟨fun _ => none, fun _ _ => none, fun _ => none, fun r => some (.inr r)⟩ st, fun r => some (.inr r)⟩
noncomputable def loopF (T : TypeId → Option TyI) (call : FuncId → List TV → Nat → M TV) (e : Entry) (n id : Nat) (x : Gam × Gam × List CT) : Nat → List DV → Option (Sum (InterpA x.2.2) (InterpA e.outC)) :=
  iter id (loopStep T call e n id x)
end Go.Ev
namespace Go.Ev
def Typed : List CT → List DV → Prop
  | [], ds => ds = []
  | c :: cs, ds => ∃ x ds', ds = ⟨c, x⟩ :: ds' ∧ Typed cs ds'
theorem Typed.append : ∀ {cs cs' : List CT} {ds ds' : List DV}, Typed cs ds → Typed cs' ds' → Typed (cs ++ cs') (ds ++ ds')
  | [], _, ds, _, h, h' => by simp only [Typed] at h; subst h; exact h'
  | c :: cs, cs', ds, ds', h, h' => by
    simp only [Typed] at h
    obtain ⟨x, r, rfl, h⟩ := h
    exact ⟨x, r ++ ds', rfl, Typed.append h h'⟩
def Dat.fit : Dat → Prop
  | .b _ => True
  | .i k n => k.min ≤ n ∧ n ≤ k.max
  | .s x => x.length ≤ maxLen
  | .l sz cs => 0 < sz ∧ cs.length ≤ maxLen * sz ∧ fits cs
where fits : List Dat → Prop
  | [] => True
  | d :: ds => d.fit ∧ fits ds
section
variable {H : Heap} {R : Nat → Prop} {own : Bool}
theorem RelDs.app0 : ∀ {ds ds' : List Dat} {vs vs' : List Value}, RelDs H R own ds vs [] → RelDs H R own ds' vs' [] → RelDs H R own (ds ++ ds') (vs ++ vs') []
  | [], _, vs, _, h, h' => by simp only [RelDs] at h; rw [h.1]; exact h'
  | d :: ds, ds', vs, vs', h, h' => by
    simp only [RelDs] at h
    obtain ⟨v, r, f1, f2, rfl, hf, h1, h2⟩ := h
    have hf := (List.append_eq_nil_iff.1 hf.symm)
    rw [hf.2] at h2
    rw [hf.1] at h1
    simp only [List.cons_append, RelDs]
    exact ⟨v, r ++ vs', [], [], rfl, rfl, h1, RelDs.app0 h2 h'⟩
mutual
theorem RelD.fit : ∀ {d : Dat} {v : Value} {fp : List Nat}, RelD H R false d v fp → d.fit
  | .b _, _, _, _ => by simp [Dat.fit]
  | .i _ _, _, _, h => by simp only [RelD] at h; simp only [Dat.fit]; exact h.2.1
  | .s _, _, _, h => by simp only [RelD] at h; simp only [Dat.fit]; exact h.2.1
  | .l sz cs, _, _, h => by
    simp only [RelD] at h
    obtain ⟨a, len, cap, -, h0, h1, h2, h3, h4⟩ := h
    simp only [Dat.fit]
    refine ⟨h0, by rw [h1]; exact Nat.mul_le_mul_right _ (Nat.le_trans h2 h3), ?_⟩
    rcases h4 with ⟨h, -⟩ | ⟨-, -, h4⟩
    · cases h
    · rcases h4 with rfl | ⟨g, off, cur, ty, frz, -, -, -, -, h5⟩
      · simp [Dat.fit.fits]
      · exact RelDs.fits h5
theorem RelDs.fits : ∀ {ds : List Dat} {vs : List Value} {fp : List Nat}, RelDs H R false ds vs fp → Dat.fit.fits ds
  | [], _, _, _ => by simp [Dat.fit.fits]
  | d :: ds, _, _, h => by
    simp only [RelDs] at h
    obtain ⟨v, r, f1, f2, -, -, h1, h2⟩ := h
    simp only [Dat.fit.fits]
    exact ⟨RelD.fit h1, RelDs.fits h2⟩
end
end
theorem pack_typed : ∀ {ts : CTs} {ds : List DV}, Typed ts.list ds → ∃ x : InterpL ts, encL ts x = ds.map fun d => enc d.c d.x
  | .one c, ds, h => by
    simp only [CTs.list, Typed] at h
    obtain ⟨x, r, rfl, rfl⟩ := h
    exact ⟨x, by simp [encL]⟩
  | .cons c cs, ds, h => by
    simp only [CTs.list, Typed] at h
    obtain ⟨x, r, rfl, h⟩ := h
    obtain ⟨y, hy⟩ := pack_typed h
    exact ⟨(x, y), by simp [encL, hy]⟩
theorem encL_len : ∀ (ts : CTs) (x : InterpL ts), (encL ts x).length = ts.size
  | .one _, _ => rfl
  | .cons _ cs, x => by simp [encL, CTs.size, encL_len cs x.2]
def fitMem (S : List (TypeId × List CT)) (t : TypeId) (cts : List CT) : Bool := S.any fun p => Nat.beq p.1 t && ctsB p.2 cts
where ctsB : List CT → List CT → Bool
  | [], [] => true
  | a :: as, b :: bs => CT.beq a b && ctsB as bs
  | _, _ => false
theorem ctsB_eq : ∀ {a b : List CT}, fitMem.ctsB a b = true → a = b
  | [], [], _ => rfl
  | [], _ :: _, h => by simp [fitMem.ctsB] at h
  | _ :: _, [], h => by simp [fitMem.ctsB] at h
  | a :: as, b :: bs, h => by
    simp only [fitMem.ctsB, Bool.and_eq_true] at h
    rw [CT.eq_of_beq _ _ h.1, ctsB_eq h.2]
theorem fitMem_spec {S : List (TypeId × List CT)} {t : TypeId} {cts : List CT} (h : fitMem S t cts = true) : (t, cts) ∈ S := by
  simp only [fitMem, List.any_eq_true, Bool.and_eq_true] at h
  obtain ⟨p, hp, h1, h2⟩ := h
  have e1 := Nat.eq_of_beq_eq_true h1
  have e2 := ctsB_eq h2
  rw [← e1, ← e2]
  exact hp
def fitFs (S : List (TypeId × List CT)) (P : Program) : Nat → List Field → List CT → Bool
  | _, [], cts => cts.isEmpty
  | off, f :: fs, cts => Nat.beq f.offset off && (Nat.ble (P.cellsOf f.type) cts.length && (fitMem S f.type (cts.take (P.cellsOf f.type)) && fitFs S P (off + P.cellsOf f.type) fs (cts.drop (P.cellsOf f.type))))
def fit1 (S : List (TypeId × List CT)) (P : Program) (t : TypeId) (cts : List CT) : Bool :=
  match P.underlying t with
  | some .bool => fitMem.ctsB cts [.bool]
  | some (.int k) => fitMem.ctsB cts [.int k]
  | some .string => fitMem.ctsB cts [.str]
  | some (.slice e) => match cts with
    | [.sl ts] => fitMem S e ts.list && Nat.beq (P.cellsOf e) ts.size
    | _ => false
  | some (.struct fs) => fitFs S P 0 fs.toList cts && Nat.beq (P.cellsOf t) cts.length
  | _ => false
def fitsB (S : List (TypeId × List CT)) (P : Program) : List (TypeId × List CT) → Bool
  | [] => true
  | (t, cts) :: r => fit1 S P t cts && fitsB S P r
theorem fitsB_spec {S : List (TypeId × List CT)} {P : Program} : ∀ {l : List (TypeId × List CT)}, fitsB S P l = true → ∀ p ∈ l, fit1 S P p.1 p.2 = true
  | [], _, p, hp => by cases hp
  | (t, cts) :: r, h, p, hp => by
    simp only [fitsB, Bool.and_eq_true] at h
    rcases List.mem_cons.1 hp with rfl | hp
    · exact h.1
    · exact fitsB_spec h.2 p hp
theorem size_pos : ∀ (ts : CTs), 0 < ts.size
  | .one _ => Nat.one_pos
  | .cons _ cs => Nat.succ_pos _
section
variable {E : Type} {en : TypeId × Value → E} {P : Program} {w : World} {sp : Nat → Bool} {held : Bool} {S : List (TypeId × List CT)}
def Rdb (w : World) (b : Nat) : Prop := b < w.heap.size
def Reads (w : World) (cts : List CT) (cs : List Value) : Prop := ∃ ds, Typed cts ds ∧ RelDs (hp w) (Rdb w) false (ds.map fun d => enc d.c d.x) cs []
theorem read_fields {n : Nat} (g : ∀ t cts, (t, cts) ∈ S → ∀ fuel cs (x : DataW E × List MemPlace), fuel < n → DataW.trod en P w 0 sp held fuel t cs = some x → Reads w cts cs) {fuel : Nat} (hf : fuel < n) (all : List Value) :
    ∀ (fs : List Field) (off : Nat) (cts : List CT) (xs : List (DataW E × List MemPlace)), fitFs S P off fs cts = true → off + cts.length ≤ all.length →
      (∀ f ∈ fs, ∃ x, DataW.trod en P w 0 sp held fuel f.type ((all.drop f.offset).take (P.cellsOf f.type)) = some x) → Reads w cts ((all.drop off).take cts.length)
  | [], off, cts, xs, h, hl, hr => by
    simp only [fitFs, List.isEmpty_iff] at h
    subst h
    exact ⟨[], rfl, by simp [RelDs]⟩
  | f :: fs, off, cts, xs, h, hl, hr => by
    simp only [fitFs, Bool.and_eq_true] at h
    obtain ⟨h1, h2, h3, h4⟩ := h
    have h1 := Nat.eq_of_beq_eq_true h1
    have h2 := Nat.le_of_ble_eq_true h2
    obtain ⟨x, hx⟩ := hr f (by simp)
    obtain ⟨ds, k1, k2⟩ := g _ _ (fitMem_spec h3) fuel _ x hf hx
    obtain ⟨ds', j1, j2⟩ := read_fields g hf all fs (off + P.cellsOf f.type) (cts.drop (P.cellsOf f.type)) xs h4 (by simp; omega) (fun f' hf' => hr f' (by simp [hf']))
    refine ⟨ds ++ ds', ?_, ?_⟩
    · have := k1.append j1
      rwa [List.take_append_drop] at this
    · rw [List.map_append]
      rw [h1] at k2
      have e : (all.drop off).take cts.length = (all.drop off).take (P.cellsOf f.type) ++ (all.drop (off + P.cellsOf f.type)).take (cts.drop (P.cellsOf f.type)).length := by
        rw [← List.drop_drop]
        conv => lhs; rw [show cts.length = P.cellsOf f.type + (cts.drop (P.cellsOf f.type)).length from by simp; omega]
        rw [List.take_add]
      rw [e]
      exact k2.app0 j2
theorem cells_at {a : Addr} {n : Nat} {cs : List Value} (h : w.cells? 0 a n = some cs) : cs.length = n ∧ ∀ j, j < n → w.cell? (a.add j) = cs[j]? := by
  unfold World.cells? at h
  rw [if_pos (Nat.zero_le _)] at h
  refine ⟨by simpa using mapM_some_length h, fun j hj => mapM_some_get h j j (by simp [hj])⟩
theorem cell_at {g off : Nat} {cur : Array Value} {ty : TypeId} {frz : Nat × Nat} (hg : hp w g = some (.cells cur ty frz)) (j : Nat) : w.cell? ((⟨g, off, none⟩ : Addr).add j) = cur.toList[off + j]? := by
  have hg' : w.heap[g]? = some (.cells cur ty frz) := hg
  unfold Addr.add
  split
  · rename_i h; subst h; simp [World.cell?, hg']
  · simp [World.cell?, hg']
theorem add_add (g off i j : Nat) : ((⟨g, off, none⟩ : Addr).add i).add j = (⟨g, off, none⟩ : Addr).add (i + j) := by
  unfold Addr.add
  by_cases hi : i = 0 <;> by_cases hj : j = 0 <;> simp [hi, hj, Nat.add_assoc]
theorem read_type (hS : fitsB S P S = true) : ∀ (n : Nat) (t : TypeId) (cts : List CT), (t, cts) ∈ S → ∀ fuel cs (x : DataW E × List MemPlace), fuel < n → DataW.trod en P w 0 sp held fuel t cs = some x → Reads w cts cs
  | 0, _, _, _, _, _, _, hf, _ => absurd hf (Nat.not_lt_zero _)
  | n + 1, t, cts, hm, fuel, cs, x, hf, hx => by
    have h1 : fit1 S P t cts = true := fitsB_spec hS _ hm
    unfold fit1 at h1
    split at h1
    · rename_i hu
      obtain ⟨b, rfl, -⟩ := DataW.trod_bool hu hx
      rw [ctsB_eq h1]
      exact ⟨[⟨.bool, b⟩], ⟨b, [], rfl, rfl⟩, by simp only [List.map_cons, List.map_nil, RelDs, RelD, enc]; exact ⟨_, [], [], [], rfl, rfl, ⟨rfl, rfl⟩, rfl, rfl⟩⟩
    · rename_i k hu
      obtain ⟨m, rfl, -, hw⟩ := DataW.trod_int hu hx
      rw [ctsB_eq h1]
      simp only [Lit.wf, Bool.and_eq_true, decide_eq_true_eq] at hw
      refine ⟨[⟨.int k, intOfVal k m⟩], ⟨_, [], rfl, rfl⟩, ?_⟩
      simp only [List.map_cons, List.map_nil, RelDs, RelD, enc]
      exact ⟨_, [], [], [], rfl, rfl, ⟨by rw [intVal_ofVal hw], by rw [intVal_ofVal hw]; exact hw, rfl⟩, rfl, rfl⟩
    · rename_i hu
      obtain ⟨s, rfl, -, hs⟩ := DataW.trod_string hu hx
      rw [ctsB_eq h1]
      refine ⟨[⟨.str, s.data.toList⟩], ⟨_, [], rfl, rfl⟩, ?_⟩
      simp only [List.map_cons, List.map_nil, RelDs, RelD, enc]
      exact ⟨_, [], [], [], rfl, rfl, ⟨rfl, by simpa using hs, rfl⟩, rfl, rfl⟩
    · rename_i e hu
      split at h1
      · rename_i ts
        simp only [Bool.and_eq_true] at h1
        have he := fitMem_spec h1.1
        have hsz := Nat.eq_of_beq_eq_true h1.2
        have hpos := size_pos ts
        rcases DataW.trod_slice hu hx with ⟨rfl, -⟩ | ⟨a, len, cap, elems, rest, m, rfl, rfl, -, -, hlc, hcm, hlen, hel, -, -⟩
        · exact ⟨[⟨.sl ts, []⟩], ⟨_, [], rfl, rfl⟩, by simp only [List.map_cons, List.map_nil, RelDs, RelD, enc]; exact ⟨_, [], [], [], rfl, rfl, ⟨none, 0, 0, rfl, hpos, by simp, Nat.le_refl _, Nat.zero_le _, .inr ⟨trivial, rfl, .inl rfl⟩⟩, rfl, rfl⟩⟩
        · have hread : ∀ i, i < len → ∃ cs, w.cells? 0 (a.add (i * ts.size)) ts.size = some cs ∧ Reads w ts.list cs := fun i hi => by
            have := hel i hi
            rw [hsz, List.getElem?_eq_getElem (by omega)] at this
            rw [Option.bind_eq_some_iff] at this
            obtain ⟨cs, k1, k2⟩ := this
            exact ⟨cs, k1, read_type hS n e _ he m cs _ (by omega) k2⟩
          by_cases h0 : len = 0
          · subst h0
            refine ⟨[⟨.sl ts, []⟩], ⟨_, [], rfl, rfl⟩, ?_⟩
            simp only [List.map_cons, List.map_nil, RelDs, RelD, enc]
            exact ⟨_, [], [], [], rfl, rfl, ⟨some a, 0, cap, rfl, hpos, by simp, hlc, hcm, .inr ⟨trivial, rfl, .inl rfl⟩⟩, rfl, rfl⟩
          · obtain ⟨cs0, c1, -⟩ := hread 0 (by omega)
            obtain ⟨l0, g0⟩ := cells_at c1
            have g00 := g0 0 hpos
            rw [List.getElem?_eq_getElem (by omega)] at g00
            have ha0 : (a.add (0 * ts.size)).add 0 = a := by simp [Addr.add]
            rw [ha0] at g00
            obtain ⟨g, cur, ty, frz, hg, hsp⟩ : ∃ g cur ty frz, hp w g = some (.cells cur ty frz) ∧ a = ⟨g, a.off, none⟩ := by
              unfold World.cell? at g00
              split at g00
              · rename_i c ty frz hc
                split at g00
                · cases g00
                · rename_i hsp
                  refine ⟨a.block, c, ty, frz, hc, ?_⟩
                  cases a with
                  | mk b o s =>
                    simp only [Addr.mk.injEq, true_and]
                    cases s with
                    | none => rfl
                    | some _ => simp at hsp
              · cases g00
            obtain ⟨off, hoff⟩ : ∃ off, off = a.off := ⟨_, rfl⟩
            rw [← hoff] at hsp
            subst hsp
            have hat : ∀ i, i < len → ∃ x : InterpL ts, off + (i + 1) * ts.size ≤ cur.size ∧ RelDs (hp w) (Rdb w) false (encL ts x) ((cur.toList.drop (off + i * ts.size)).take ts.size) [] := fun i hi => by
              obtain ⟨cs, k1, ds, k2, k3⟩ := hread i hi
              obtain ⟨j1, j2⟩ := cells_at k1
              obtain ⟨x, hx⟩ := pack_typed k2
              have hcell : ∀ j, j < ts.size → cur.toList[off + i * ts.size + j]? = cs[j]? := fun j hj => by
                rw [← j2 j hj, add_add, cell_at hg, Nat.add_assoc]
              have hlast := hcell (ts.size - 1) (by omega)
              rw [List.getElem?_eq_getElem (i := ts.size - 1) (by omega)] at hlast
              obtain ⟨hlt, -⟩ := List.getElem?_eq_some_iff.1 hlast
              simp only [Array.length_toList] at hlt
              refine ⟨x, by rw [Nat.add_mul]; omega, ?_⟩
              have e : (cur.toList.drop (off + i * ts.size)).take ts.size = cs := by
                apply List.ext_getElem?
                intro j
                by_cases hj : j < ts.size
                · rw [List.getElem?_take, if_pos hj, List.getElem?_drop, hcell j hj]
                · rw [List.getElem?_take, if_neg hj, List.getElem?_eq_none (by omega)]
              rw [e, hx]
              exact k3
            have hall : ∀ k, k ≤ len → ∃ xs : List (InterpL ts), xs.length = k ∧ RelDs (hp w) (Rdb w) false (xs.flatMap (encL ts)) ((cur.toList.drop off).take (k * ts.size)) [] := by
              intro k
              induction k with
              | zero => intro _; exact ⟨[], rfl, by simp [RelDs]⟩
              | succ k ih =>
                intro hk
                obtain ⟨xs, q1, q2⟩ := ih (by omega)
                obtain ⟨x, q3, q4⟩ := hat k (by omega)
                refine ⟨xs ++ [x], by simp [q1], ?_⟩
                rw [List.flatMap_append, Nat.add_mul, Nat.one_mul, List.take_add, List.drop_drop]
                exact q2.app0 (by simpa using q4)
            obtain ⟨xs, q1, q2⟩ := hall len (Nat.le_refl _)
            obtain ⟨-, hbound, -⟩ := hat (len - 1) (by omega)
            rw [show len - 1 + 1 = len from by omega] at hbound
            have hlen : ((xs.flatMap (encL ts)).length) = len * ts.size := by
              rw [List.length_flatMap, List.map_congr_left (g := fun _ => ts.size) (fun x _ => encL_len ts x), List.map_const', List.sum_replicate_nat, q1]
            have hgl : g < w.heap.size := by
              have : w.heap[g]? = some (.cells cur ty frz) := hg
              exact (Array.getElem?_eq_some_iff.1 this).1
            refine ⟨[⟨.sl ts, xs⟩], ⟨_, [], rfl, rfl⟩, ?_⟩
            simp only [List.map_cons, List.map_nil, RelDs, RelD, enc]
            exact ⟨_, [], [], [], rfl, rfl, ⟨_, len, cap, rfl, hpos, hlen, hlc, hcm, .inr ⟨trivial, rfl, .inr ⟨g, off, cur, ty, frz, rfl, hgl, hg, hbound, q2⟩⟩⟩, rfl, rfl⟩
      · cases h1
    · rename_i fs hu
      simp only [Bool.and_eq_true] at h1
      obtain ⟨h1, h2⟩ := h1
      have h2 := Nat.eq_of_beq_eq_true h2
      obtain ⟨xs, m, rfl, -, hl, hxl, hr⟩ := DataW.trod_struct hu hx
      have := read_fields (n := n) (fun t cts hm fuel cs x hf hx => read_type hS n t cts hm fuel cs x hf hx) (fuel := m) (by omega) cs fs.toList 0 cts xs h1 (by omega) (fun f hf => by
        obtain ⟨i, hi, rfl⟩ := List.mem_iff_getElem.1 hf
        have := hr i fs.toList[i] (by simp)
        rw [List.getElem?_eq_getElem (by simp at hi; omega)] at this
        exact ⟨_, this⟩)
      rwa [List.drop_zero, ← h2, ← hl, List.take_length] at this
    · cases h1
end
end Go.Ev
namespace Go.Ev
open Go.WideShapes Go.RowKit
def shK : CT → CK
  | .bool => .bool
  | .int k => .int k
  | .str => .str
  | c => .sh c
section
variable {H : Heap} {R : Nat → Prop} {B : Nat → Nat → Prop}
theorem kels_of {nm : Nat → Nat} : ∀ {cts : List CT} {ds : List DV} {vs : List Value} {j : Nat}, Typed cts ds → RelDs H R false (ds.map fun d => enc d.c d.x) vs [] → KRels H R B true [] nm j (cts.map shK) ds vs []
  | [], ds, vs, j, ht, h => by
    simp only [Typed] at ht
    subst ht
    simp only [List.map_nil, RelDs] at h
    simp only [List.map_nil, KRels]
    exact ⟨trivial, h.1, trivial⟩
  | c :: cts, ds, vs, j, ht, h => by
    simp only [Typed] at ht
    obtain ⟨x, r, rfl, ht⟩ := ht
    simp only [List.map_cons, RelDs] at h
    obtain ⟨v, vs', f1, f2, rfl, hf, h1, h2⟩ := h
    obtain ⟨rfl, rfl⟩ := List.append_eq_nil_iff.1 hf.symm
    simp only [List.map_cons, KRels]
    refine ⟨v, vs', [⟨c, x⟩], r, [], [], rfl, rfl, rfl, h1.one1, ?_, kels_of ht h2⟩
    cases c with
    | bool => simp only [shK, KRel]; simp only [enc, RelD] at h1; exact ⟨x, rfl, h1.1, trivial⟩
    | int k => simp only [shK, KRel]; simp only [enc, RelD] at h1; exact ⟨x, rfl, h1.1, h1.2.1, trivial⟩
    | str => simp only [shK, KRel]; simp only [enc, RelD] at h1; exact ⟨x, rfl, h1.1, h1.2.1, trivial⟩
    | sl ts => simp only [shK, KRel]; exact ⟨x, rfl, rfl, h1, trivial⟩
    | tree fs => simp only [shK, KRel]; exact ⟨x, rfl, rfl, h1, trivial⟩
end
end Go.Ev
namespace Go.Ev
def Evt (p : Nat → Prop) : Prop := ∃ N, ∀ n, N ≤ n → p n
theorem Evt.of {p : Nat → Prop} (h : ∀ n, p n) : Evt p := ⟨0, fun n _ => h n⟩
theorem Evt.and {p q : Nat → Prop} (h : Evt p) (k : Evt q) : Evt fun n => p n ∧ q n := by
  obtain ⟨N, h⟩ := h
  obtain ⟨M, k⟩ := k
  exact ⟨max N M, fun n hn => ⟨h n (by omega), k n (by omega)⟩⟩
theorem Evt.mono {p q : Nat → Prop} (h : Evt p) (k : ∀ n, p n → q n) : Evt q := by
  obtain ⟨N, h⟩ := h
  exact ⟨N, fun n hn => k n (h n hn)⟩
theorem Evt.succ {p : Nat → Prop} (h : Evt fun n => p (n + 1)) : Evt p := by
  obtain ⟨N, h⟩ := h
  refine ⟨N + 1, fun n hn => ?_⟩
  obtain ⟨m, rfl⟩ : ∃ m, n = m + 1 := ⟨n - 1, by omega⟩
  exact h m (by omega)
theorem Evt.ge (k : Nat) : Evt fun n => k ≤ n := ⟨k, fun _ h => h⟩
theorem Evt.all {α : Type} {p : α → Nat → Prop} : ∀ (l : List α), (∀ x ∈ l, Evt (p x)) → Evt fun n => ∀ x ∈ l, p x n
  | [], _ => ⟨0, by simp⟩
  | a :: l, h => by
    refine ((h a (by simp)).and (Evt.all l fun x hx => h x (by simp [hx]))).mono fun n hn x hx => ?_
    rcases List.mem_cons.1 hx with rfl | hx
    · exact hn.1
    · exact hn.2 x hx
theorem Evt.val {α : Type} {f : Nat → Option α} {v : α} (h : Evt fun n => f n = some v) : ∃ n, f n = some v := by
  obtain ⟨N, h⟩ := h
  exact ⟨N, h N (Nat.le_refl _)⟩
theorem loop_up {σ α : Type} {len : Nat} {L : Nat → Nat → Nat → σ → Option α} (inv : Nat → σ → Prop) (post : α → Prop)
    (hstep : Evt fun n => ∀ m i s, i < len → inv i s → (∃ r, L n (m + 1) i s = some r ∧ post r) ∨ ∃ s', L n (m + 1) i s = L n m (i + 1) s' ∧ inv (i + 1) s')
    (hend : Evt fun n => ∀ m s, inv len s → ∃ r, L n (m + 1) len s = some r ∧ post r) : Evt fun n => ∀ s0, inv 0 s0 → ∃ r, L n n 0 s0 = some r ∧ post r := by
  refine ((hstep.and hend).and (Evt.ge (len + 1))).mono fun n ⟨⟨h1, h2⟩, hn⟩ s0 h0 => ?_
  have key : ∀ k i s m, len = i + k → inv i s → k < m → ∃ r, L n m i s = some r ∧ post r := by
    intro k
    induction k with
    | zero =>
      intro i s m e hi hm
      obtain ⟨m, rfl⟩ : ∃ m', m = m' + 1 := ⟨m - 1, by omega⟩
      obtain rfl : len = i := by omega
      exact h2 m s hi
    | succ k ih =>
      intro i s m e hi hm
      obtain ⟨m, rfl⟩ : ∃ m', m = m' + 1 := ⟨m - 1, by omega⟩
      rcases h1 m i s (by omega) hi with h | ⟨s', h, hi'⟩
      · exact h
      · rw [h]
        exact ih (i + 1) s' m (by omega) hi' (by omega)
  exact key len 0 s0 n (by omega) h0 (by omega)
theorem wrap_next {i len : Nat} (h : i < len) (hl : len ≤ 2 ^ 40) : IntKind.wrap .i64 ((i : Int) + (1 : Int)) = ((i + 1 : Nat) : Int) := by
  rw [IntKind.wrap_i64]; omega
def atZ {α : Type} (l : List α) (i : Int) : Option α := cond (decide (0 ≤ i)) (nth l i.toNat) none
def atN {α : Type} (l : List α) (i : Nat) : Option α := nth l i
theorem atZ_at {α : Type} {l : List α} {i : Nat} (h : i < l.length) : atZ l (i : Int) = some l[i] := by
  unfold atZ nth
  rw [decide_eq_true (by omega)]
  simp [h]
theorem atN_at {α : Type} {l : List α} {i : Nat} (h : i < l.length) : atN l (Int.toNat (i : Int)) = some l[i] := by
  unfold atN nth
  simp [h]
theorem fillN_step {α : Type} {a : List α} {d : α} {i : Nat} (h : i < a.length) : (a.take i ++ List.replicate (a.length - i) d).set i a[i] = a.take (i + 1) ++ List.replicate (a.length - (i + 1)) d := by
  apply List.ext_getElem?
  intro j
  rw [List.getElem?_set]
  have hl : (a.take i).length = i := by simp; omega
  by_cases e : i = j
  · subst e
    rw [if_pos rfl, if_pos (by simp; omega), List.getElem?_append_left (by simp; omega), List.getElem?_take, if_pos (by omega), List.getElem?_eq_getElem h]
  · rw [if_neg e]
    by_cases h1 : j < i
    · rw [List.getElem?_append_left (by simp; omega), List.getElem?_append_left (by simp; omega), List.getElem?_take, List.getElem?_take, if_pos h1, if_pos (by omega)]
    · rw [List.getElem?_append_right (by omega), List.getElem?_append_right (by simp; omega), List.getElem?_replicate, List.getElem?_replicate]
      simp only [List.length_take]
      have e1 : min i a.length = i := by omega
      have e2 : min (i + 1) a.length = i + 1 := by omega
      rw [e1, e2]
      by_cases h2 : j < a.length
      · rw [if_pos (by omega), if_pos (by omega)]
      · rw [if_neg (by omega), if_neg (by omega)]
theorem fillN_len {α : Type} (a : List α) (d : α) {i : Nat} (h : i ≤ a.length) : (a.take i ++ List.replicate (a.length - i) d).length = a.length := by simp; omega
def lim : Nat := 1048576
mutual
def smI : (c : CT) → Interp c → Prop
  | .bool, _ => True
  | .int _, _ => True
  | .str, x => List.length (α := UInt8) x ≤ lim
  | .sl ts, xs => List.length (α := InterpL ts) xs ≤ lim ∧ ∀ x ∈ (xs : List (InterpL ts)), smL ts x
  | .tree _, _ => False
def smL : (ts : CTs) → InterpL ts → Prop
  | .one c, x => smI c x
  | .cons c cs, x => smI c x.1 ∧ smL cs x.2
end
mutual
def okI : (c : CT) → Interp c → Prop
  | .bool, _ => True
  | .int k, x => k.min ≤ intVal k x ∧ intVal k x ≤ k.max
  | .str, x => List.length (α := UInt8) x ≤ maxLen
  | .sl ts, xs => List.length (α := InterpL ts) xs ≤ maxLen ∧ ∀ x ∈ (xs : List (InterpL ts)), okL ts x
  | .tree _, _ => True
def okL : (ts : CTs) → InterpL ts → Prop
  | .one c, x => okI c x
  | .cons c cs, x => okI c x.1 ∧ okL cs x.2
end
theorem fits_append : ∀ {a b : List Dat}, Dat.fit.fits (a ++ b) → Dat.fit.fits a ∧ Dat.fit.fits b
  | [], _, h => ⟨by simp [Dat.fit.fits], h⟩
  | d :: a, b, h => by
    simp only [List.cons_append, Dat.fit.fits] at h
    obtain ⟨k1, k2⟩ := fits_append h.2
    exact ⟨by simp only [Dat.fit.fits]; exact ⟨h.1, k1⟩, k2⟩
mutual
theorem okI_of : ∀ (c : CT) (x : Interp c), (enc c x).fit → okI c x
  | .bool, _, _ => by simp [okI]
  | .int k, x, h => by simp only [enc, Dat.fit] at h; simp only [okI]; exact h
  | .str, x, h => by simp only [enc, Dat.fit] at h; simp only [okI]; exact h
  | .sl ts, xs, h => by
    simp only [enc, Dat.fit] at h
    simp only [okI]
    obtain ⟨h0, h1, h2⟩ := h
    have hlen : ((xs : List (InterpL ts)).flatMap (encL ts)).length = List.length (α := InterpL ts) xs * ts.size := by
      rw [List.length_flatMap, List.map_congr_left (g := fun _ => ts.size) (fun x _ => encL_len ts x), List.map_const', List.sum_replicate_nat]
    rw [hlen] at h1
    refine ⟨Nat.le_of_mul_le_mul_right h1 h0, fun x hx => ?_⟩
    clear h1 hlen
    have : ∀ l : List (InterpL ts), Dat.fit.fits (l.flatMap (encL ts)) → ∀ x ∈ l, okL ts x := by
      intro l
      induction l with
      | nil => intro _ x hx; cases hx
      | cons a l ih =>
        intro h x hx
        rw [List.flatMap_cons] at h
        obtain ⟨k1, k2⟩ := fits_append h
        rcases List.mem_cons.1 hx with rfl | hx
        · exact okL_of ts _ k1
        · exact ih k2 x hx
    exact this xs h2 x hx
  | .tree _, _, _ => by simp [okI]
theorem okL_of : ∀ (ts : CTs) (x : InterpL ts), Dat.fit.fits (encL ts x) → okL ts x
  | .one c, x, h => by
    simp only [encL, Dat.fit.fits] at h
    simp only [okL]
    exact okI_of c x h.1
  | .cons c cs, x, h => by
    simp only [encL, Dat.fit.fits] at h
    simp only [okL]
    exact ⟨okI_of c x.1 h.1, okL_of cs x.2 h.2⟩
end
def okDs : List DV → Prop
  | [] => True
  | d :: ds => okI d.c d.x ∧ okDs ds
theorem okDs_of : ∀ (ds : List DV), Dat.fit.fits (ds.map fun d => enc d.c d.x) → okDs ds
  | [], _ => trivial
  | d :: ds, h => by
    simp only [List.map_cons, Dat.fit.fits] at h
    exact ⟨okI_of _ _ h.1, okDs_of ds h.2⟩
theorem len_wrap {cur : Int} {k : Nat} (h0 : 0 ≤ cur) (h1 : cur ≤ 1048576) (hk : k ≤ maxLen) : IntKind.wrap .i64 (cur - (k : Int)) = cur - k := by
  unfold maxLen at hk
  rw [IntKind.wrap_i64]
  omega
theorem sz_loop {α : Type} {l : List α} {sm : α → Prop} (hl : l.length ≤ 1048576) {L : Nat → Nat → Int → Int → Option (Sum Int Int)}
    (hx : Evt fun n => ∀ m (i : Nat) (x : α) (left : Int), l[i]? = some x → 0 ≤ left → left ≤ 1048576 → ∃ v, L n (m + 1) (i : Int) left = cond (decide (v < (0 : Int))) (some (Sum.inr (-1))) (L n m (IntKind.wrap .i64 ((i : Int) + (1 : Int))) v) ∧ v ≤ 1048576 ∧ (0 ≤ v → sm x))
    (he : ∀ n m left, L n (m + 1) (l.length : Int) left = some (Sum.inl left)) :
    Evt fun n => ∀ left : Int, 0 ≤ left → left ≤ 1048576 → ∃ r, L n n 0 left = some r ∧ (∀ v, r = .inl v → 0 ≤ v ∧ v ≤ 1048576 ∧ ∀ x ∈ l, sm x) ∧ (∀ v, r = .inr v → v = -1) := by
  have := loop_up (len := l.length) (L := fun n m i (left : Int) => L n m (i : Int) left) (fun i left => 0 ≤ left ∧ left ≤ 1048576 ∧ ∀ j x, j < i → l[j]? = some x → sm x)
    (fun r => (∀ v, r = .inl v → 0 ≤ v ∧ v ≤ 1048576 ∧ ∀ x ∈ l, sm x) ∧ (∀ v, r = .inr v → v = -1)) ?_ ?_
  · exact this.mono fun n h left h0 h1 => h left ⟨h0, h1, fun j x hj => absurd hj (Nat.not_lt_zero _)⟩
  · refine hx.mono fun n h m i left hi hinv => ?_
    obtain ⟨h0, h1, h2⟩ := hinv
    obtain ⟨v, e, k1, k2⟩ := h m i l[i] left (List.getElem?_eq_getElem hi) h0 h1
    simp only [e]
    by_cases hv : v < 0
    · left; rw [decide_eq_true hv]; exact ⟨_, rfl, ⟨fun _ h => by (cases h), fun _ h => by (cases h; rfl)⟩⟩
    · right
      rw [decide_eq_false hv, wrap_next hi (by omega)]
      refine ⟨v, rfl, by omega, k1, fun j x hj hx => ?_⟩
      by_cases hji : j = i
      · subst hji
        rw [List.getElem?_eq_getElem hi] at hx
        cases hx
        exact k2 (by omega)
      · exact h2 j x (by omega) hx
  · refine Evt.of fun n m left hinv => ⟨_, he n m left, ⟨fun v hv => ?_, fun _ h => by (cases h)⟩⟩
    cases hv
    refine ⟨hinv.1, hinv.2.1, fun x hx => ?_⟩
    obtain ⟨j, hj, rfl⟩ := List.mem_iff_getElem.1 hx
    exact hinv.2.2 j _ hj (List.getElem?_eq_getElem hj)
theorem to_loop {α : Type} {a : List α} {d : α} (hl : a.length ≤ 1048576) {β : Type} {L : Nat → Nat → Int → List α → Option (Sum (List α) β)}
    (hx : Evt fun n => ∀ m (i : Nat) (out : List α), (h : i < a.length) → out.length = a.length → L n (m + 1) (i : Int) out = L n m (IntKind.wrap .i64 ((i : Int) + (1 : Int))) (out.set i a[i]))
    (he : ∀ n m out, L n (m + 1) (a.length : Int) out = some (Sum.inl out)) : Evt fun n => L n n 0 (List.replicate a.length d) = some (Sum.inl a) := by
  have := loop_up (len := a.length) (L := fun n m i (out : List α) => L n m (i : Int) out) (fun i out => i ≤ a.length ∧ out = a.take i ++ List.replicate (a.length - i) d) (fun r => r = .inl a) ?_ ?_
  · exact this.mono fun n h => by
      obtain ⟨r, h1, h2⟩ := h (List.replicate a.length d) ⟨Nat.zero_le _, by simp⟩
      rw [← h2]; exact h1
  · refine hx.mono fun n h m i out hi hinv => ?_
    obtain ⟨h0, rfl⟩ := hinv
    right
    have := h m i _ hi (fillN_len a d h0)
    rw [wrap_next hi (by omega), fillN_step hi] at this
    exact ⟨_, this, hi, rfl⟩
  · refine Evt.of fun n m out hinv => ⟨_, he n m out, ?_⟩
    rw [hinv.2]; simp
theorem eq_loop {β : Type} {len : Nat} (hl : len ≤ 1048576) {L : Nat → Nat → Int → Option (Sum Unit β)}
    (hx : Evt fun n => ∀ m (i : Nat), i < len → L n (m + 1) (i : Int) = L n m (IntKind.wrap .i64 ((i : Int) + (1 : Int))))
    (he : ∀ n m, L n (m + 1) (len : Int) = some (Sum.inl ())) : Evt fun n => L n n 0 = some (Sum.inl ()) := by
  have := loop_up (len := len) (L := fun n m i (_ : Unit) => L n m (i : Int)) (fun _ _ => True) (fun r => r = .inl ()) ?_ ?_
  · exact this.mono fun n h => by
      obtain ⟨r, h1, h2⟩ := h () trivial
      rw [← h2]; exact h1
  · refine hx.mono fun n h m i _ hi _ => ?_
    right
    have := h m i hi
    rw [wrap_next hi (by omega)] at this
    exact ⟨(), this, trivial⟩
  · exact Evt.of fun n m _ _ => ⟨_, he n m, rfl⟩
@[reducible] def ftsOf : CT → CTs
  | .tree fs => fs
  | c => .one c
theorem ble_mx {n : Nat} (h : n ≤ 9223372036854775807) : Nat.ble n mx = true := Nat.ble_eq_true_of_le h
end Go.Ev
namespace Go.Ev
def Glob.has (gl : Glob) (P : Program) (name : String) (k : IntKind) (zs : List Int) : Prop :=
  (∃ g, P.globalNamed name = some g ∧ g < gl.n) ∧ Lib.TabIs P gl.w name k zs
theorem Glob.tab {gl : Glob} {P : Program} {name : String} {k : IntKind} {zs : List Int} (h : gl.has P name k zs) {w : World} {F : Nat → Prop} (hw : GOk gl w F) : Lib.TabIs P w name k zs := by
  obtain ⟨⟨g, h1, h2⟩, h3⟩ := h
  have e : w.heap[g]? = gl.w.heap[g]? := (hw.at_ g h2).2
  unfold Lib.TabIs World.var? at h3 ⊢
  rw [h1] at h3 ⊢
  simp only [Option.bind_some] at h3 ⊢
  rw [e]
  exact h3
theorem arr1 {α : Type} {a : Array α} (h : a.size = 1) : ∃ x, a = #[x] := by
  obtain ⟨l⟩ := a
  match l, h with
  | [x], _ => exact ⟨x, rfl⟩
end Go.Ev
