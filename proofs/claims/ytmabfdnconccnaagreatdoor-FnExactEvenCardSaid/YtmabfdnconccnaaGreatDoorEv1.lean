/- A verified evaluator of the machine's code, part 1: no program in sight. -/
import Derived.Calls
import Derived.RowKit3
import Derived.Below
import Derived.Laws.AppendOwn
import Derived.Laws.IdiomCopy
import Derived.WalkKit
import Derived.Laws.StructEq
namespace Go.Ev
abbrev Bytes := List UInt8
mutual
inductive CT where
  | bool
  | int (k : IntKind)
  | str
  | sl (ts : CTs)
  | tree (fs : CTs)
inductive CTs where
  | one (c : CT)
  | cons (c : CT) (cs : CTs)
end
instance : Inhabited CT := ⟨.bool⟩
instance : Inhabited CTs := ⟨.one .bool⟩
mutual
def CT.beq : CT → CT → Bool
  | .bool, .bool => true
  | .int a, .int b => decide (a = b)
  | .str, .str => true
  | .sl a, .sl b => CTs.beq a b
  | .tree a, .tree b => CTs.beq a b
  | _, _ => false
def CTs.beq : CTs → CTs → Bool
  | .one a, .one b => CT.beq a b
  | .cons a x, .cons b y => CT.beq a b && CTs.beq x y
  | _, _ => false
end
mutual
theorem CT.eq_of_beq : ∀ (a b : CT), a.beq b = true → a = b
  | .bool, b, h => by cases b <;> simp_all [CT.beq]
  | .int _, b, h => by cases b <;> simp_all [CT.beq]
  | .str, b, h => by cases b <;> simp_all [CT.beq]
  | .sl x, b, h => by
    cases b <;> simp only [CT.beq, Bool.false_eq_true] at h
    rw [CTs.eq_of_beq _ _ h]
  | .tree x, b, h => by
    cases b <;> simp only [CT.beq, Bool.false_eq_true] at h
    rw [CTs.eq_of_beq _ _ h]
theorem CTs.eq_of_beq : ∀ (a b : CTs), a.beq b = true → a = b
  | .one x, b, h => by
    cases b <;> simp only [CTs.beq, Bool.false_eq_true] at h
    rw [CT.eq_of_beq _ _ h]
  | .cons x xs, b, h => by
    cases b <;> simp only [CTs.beq, Bool.false_eq_true, Bool.and_eq_true] at h
    rw [CT.eq_of_beq _ _ h.1, CTs.eq_of_beq _ _ h.2]
end
inductive RT (F : Type) where
  | mk (x : F) (kids : List (RT F))
def IntI : IntKind → Type
  | .u8 => UInt8
  | _ => Int
mutual
@[reducible] def Interp : CT → Type
  | .bool => Bool
  | .int k => IntI k
  | .str => Bytes
  | .sl ts => List (InterpL ts)
  | .tree fs => List (RT (InterpL fs))
@[reducible] def InterpL : CTs → Type
  | .one c => Interp c
  | .cons c cs => Interp c × InterpL cs
end
def CTs.size : CTs → Nat
  | .one _ => 1
  | .cons _ cs => cs.size + 1
@[reducible] def CTs.snoc : CTs → CT → CTs
  | .one c, d => .cons c (.one d)
  | .cons c cs, d => .cons c (cs.snoc d)
def CTs.list : CTs → List CT
  | .one c => [c]
  | .cons c cs => c :: cs.list
inductive Dat where
  | b (x : Bool)
  | i (k : IntKind) (n : Int)
  | s (x : Bytes)
  | l (sz : Nat) (cs : List Dat)
def intVal : (k : IntKind) → IntI k → Int
  | .u8, x => ((show UInt8 from x).toNat : Int)
  | .u16, x => x | .u32, x => x | .u64, x => x
  | .i8, x => x | .i16, x => x | .i32, x => x | .i64, x => x
def intOfVal : (k : IntKind) → Int → IntI k
  | .u8, n => UInt8.ofNat n.toNat
  | .u16, n => n | .u32, n => n | .u64, n => n
  | .i8, n => n | .i16, n => n | .i32, n => n | .i64, n => n
mutual
def RT.enc {F : Type} (f : F → List Dat) (sz : Nat) : RT F → List Dat
  | .mk x kids => f x ++ [.l sz (RT.encs f sz kids)]
def RT.encs {F : Type} (f : F → List Dat) (sz : Nat) : List (RT F) → List Dat
  | [] => []
  | k :: ks => RT.enc f sz k ++ RT.encs f sz ks
end
mutual
def enc : (c : CT) → Interp c → Dat
  | .bool, x => .b x
  | .int k, x => .i k (intVal k x)
  | .str, x => .s x
  | .sl ts, xs => .l ts.size (List.flatMap (encL ts) xs)
  | .tree fs, xs => .l (fs.size + 1) (RT.encs (encL fs) (fs.size + 1) xs)
def encL : (ts : CTs) → InterpL ts → List Dat
  | .one c, x => [enc c x]
  | .cons c cs, x => enc c x.1 :: encL cs x.2
end
@[reducible] def elemTs : CT → CTs
  | .sl ts => ts
  | .tree fs => fs.snoc (.tree fs)
  | c => .one c
def snocL : (fs : CTs) → (c : CT) → InterpL fs → Interp c → InterpL (fs.snoc c)
  | .one _, _, x, y => (x, y)
  | .cons _ cs, c, x, y => (x.1, snocL cs c x.2 y)
def unsnocL : (fs : CTs) → (c : CT) → InterpL (fs.snoc c) → InterpL fs × Interp c
  | .one _, _, x => (x.1, x.2)
  | .cons _ cs, c, x => ((x.1, (unsnocL cs c x.2).1), (unsnocL cs c x.2).2)
def ofRT (fs : CTs) : RT (InterpL fs) → InterpL (fs.snoc (.tree fs))
  | .mk x kids => snocL fs (.tree fs) x kids
def toRT (fs : CTs) (x : InterpL (fs.snoc (.tree fs))) : RT (InterpL fs) :=
  .mk (unsnocL fs (.tree fs) x).1 (unsnocL fs (.tree fs) x).2
def isSl : CT → Bool
  | .sl _ | .tree _ => true
  | _ => false
def lenI : (c : CT) → Interp c → Nat
  | .sl _, xs => List.length xs
  | .tree _, xs => List.length xs
  | _, _ => 0
def nth {α : Type} (l : List α) (i : Nat) : Option α := l[i]?
def getI : (c : CT) → Interp c → Nat → Option (InterpL (elemTs c))
  | .sl ts, xs, i => nth (α := InterpL ts) xs i
  | .tree fs, xs, i => (nth (α := RT (InterpL fs)) xs i).map (ofRT fs)
  | _, _, _ => none
def setI : (c : CT) → Interp c → Nat → InterpL (elemTs c) → Interp c
  | .sl _, xs, i, e => List.set xs i e
  | .tree fs, xs, i, e => List.set xs i (toRT fs e)
  | _, x, _, _ => x
def appI : (c : CT) → Interp c → Interp c → Interp c
  | .sl _, xs, ys => List.append xs ys
  | .tree _, xs, ys => List.append xs ys
  | _, x, _ => x
def takeI : (c : CT) → Nat → Interp c → Interp c
  | .sl _, n, xs => List.take n xs
  | .tree _, n, xs => List.take n xs
  | _, _, x => x
def dropI : (c : CT) → Nat → Interp c → Interp c
  | .sl _, n, xs => List.drop n xs
  | .tree _, n, xs => List.drop n xs
  | _, _, x => x
def dfltI : (k : IntKind) → IntI k
  | .u8 => (0 : UInt8)
  | .u16 => (0 : Int) | .u32 => (0 : Int) | .u64 => (0 : Int)
  | .i8 => (0 : Int) | .i16 => (0 : Int) | .i32 => (0 : Int) | .i64 => (0 : Int)
def dflt : (c : CT) → Interp c
  | .bool => false
  | .int k => dfltI k
  | .str => []
  | .sl _ => []
  | .tree _ => []
def dfltL : (ts : CTs) → InterpL ts
  | .one c => dflt c
  | .cons c cs => (dflt c, dfltL cs)
def consI : (c : CT) → InterpL (elemTs c) → Interp c → Interp c
  | .sl _, x, xs => List.cons x xs
  | .tree fs, x, xs => List.cons (toRT fs x) xs
  | _, _, xs => xs
end Go.Ev
namespace Go.Ev
abbrev Heap := Nat → Option Obj
def unfz (n : Nat) (f : Nat × Nat) : Prop := ∀ o, o < n → ¬ (f.1 ≤ o ∧ o < f.2)
mutual
def RelD (H : Heap) (R : Nat → Prop) (own : Bool) : Dat → Value → List Nat → Prop
  | .b x, v, fp => v = .bool x ∧ fp = []
  | .i k n, v, fp => v = .int k n ∧ (k.min ≤ n ∧ n ≤ k.max) ∧ fp = []
  | .s x, v, fp => v = .string ⟨x.toArray⟩ ∧ x.length ≤ maxLen ∧ fp = []
  | .l sz cs, v, fp => ∃ a len cap, v = .slice a len cap ∧ 0 < sz ∧ cs.length = len * sz ∧ len ≤ cap ∧ cap ≤ maxLen ∧
      ((own = true ∧ ((cap = 0 ∧ fp = []) ∨ ∃ g cur ty frz fps, a = some ⟨g, 0, none⟩ ∧ H g = some (.cells cur ty frz) ∧ cur.size = cap * sz ∧ unfz cur.size frz ∧
          fp = g :: fps ∧ RelDs H R own cs (cur.toList.take (len * sz)) fps)) ∨
       (own = false ∧ fp = [] ∧ (cs = [] ∨ ∃ g off cur ty frz, a = some ⟨g, off, none⟩ ∧ R g ∧ H g = some (.cells cur ty frz) ∧ off + len * sz ≤ cur.size ∧
          RelDs H R own cs ((cur.toList.drop off).take (len * sz)) [])))
def RelDs (H : Heap) (R : Nat → Prop) (own : Bool) : List Dat → List Value → List Nat → Prop
  | [], vs, fp => vs = [] ∧ fp = []
  | d :: ds, vs, fp => ∃ v vs' f1 f2, vs = v :: vs' ∧ fp = f1 ++ f2 ∧ RelD H R own d v f1 ∧ RelDs H R own ds vs' f2
end
variable {H H' : Heap} {R R' : Nat → Prop} {own : Bool}
theorem RelDs.length : ∀ {ds : List Dat} {vs : List Value} {fp : List Nat}, RelDs H R own ds vs fp → ds.length = vs.length
  | [], vs, fp, h => by simp [RelDs] at h; simp [h.1]
  | d :: ds, vs, fp, h => by
    simp only [RelDs] at h
    obtain ⟨v, vs', f1, f2, rfl, -, -, h2⟩ := h
    simp [RelDs.length h2]
mutual
theorem RelD.frame : ∀ {d : Dat} {v : Value} {fp : List Nat}, RelD H R own d v fp → (∀ b, b ∈ fp ∨ R b → H' b = H b) → (∀ b, R b → R' b) → RelD H' R' own d v fp
  | .b _, _, _, h, _, _ => by simpa [RelD] using h
  | .i _ _, _, _, h, _, _ => by simpa [RelD] using h
  | .s _, _, _, h, _, _ => by simpa [RelD] using h
  | .l sz cs, v, fp, h, hf, hR => by
    simp only [RelD] at h ⊢
    obtain ⟨a, len, cap, rfl, h0, h1, h2, h3, h4⟩ := h
    refine ⟨a, len, cap, rfl, h0, h1, h2, h3, ?_⟩
    rcases h4 with ⟨ho, h4⟩ | ⟨ho, hfp, h4⟩
    · left
      refine ⟨ho, ?_⟩
      rcases h4 with h4 | ⟨g, cur, ty, frz, fps, ha, hg, hs, hz, hfp, hr⟩
      · exact .inl h4
      · subst hfp
        exact .inr ⟨g, cur, ty, frz, fps, ha, (hf g (.inl (by simp))).trans hg, hs, hz, rfl, RelDs.frame hr (fun b hb => hf b (hb.imp (fun h => by simp [h]) id)) hR⟩
    · right
      refine ⟨ho, hfp, ?_⟩
      rcases h4 with h4 | ⟨g, off, cur, ty, frz, ha, hRg, hg, hs, hr⟩
      · exact .inl h4
      · exact .inr ⟨g, off, cur, ty, frz, ha, hR g hRg, (hf g (.inr hRg)).trans hg, hs, RelDs.frame hr (fun b hb => hf b (hb.imp (fun h => by simp at h) id)) hR⟩
theorem RelDs.frame : ∀ {ds : List Dat} {vs : List Value} {fp : List Nat}, RelDs H R own ds vs fp → (∀ b, b ∈ fp ∨ R b → H' b = H b) → (∀ b, R b → R' b) → RelDs H' R' own ds vs fp
  | [], _, _, h, _, _ => by simpa [RelDs] using h
  | d :: ds, vs, fp, h, hf, hR => by
    simp only [RelDs] at h ⊢
    obtain ⟨v, vs', f1, f2, rfl, rfl, h1, h2⟩ := h
    exact ⟨v, vs', f1, f2, rfl, rfl, RelD.frame h1 (fun b hb => hf b (hb.imp (fun h => by simp [h]) id)) hR, RelDs.frame h2 (fun b hb => hf b (hb.imp (fun h => by simp [h]) id)) hR⟩
end
mutual
theorem RelD.share : ∀ {d : Dat} {v : Value} {fp : List Nat}, RelD H R true d v fp → (∀ b, b ∈ fp → R' b) → RelD H R' false d v []
  | .b _, _, _, h, _ => by simp [RelD] at h ⊢; exact h.1
  | .i _ _, _, _, h, _ => by simp [RelD] at h ⊢; exact ⟨h.1, h.2.1⟩
  | .s _, _, _, h, _ => by simp [RelD] at h ⊢; exact ⟨h.1, h.2.1⟩
  | .l sz cs, v, fp, h, hf => by
    simp only [RelD] at h ⊢
    obtain ⟨a, len, cap, rfl, h0, h1, h2, h3, h4⟩ := h
    refine ⟨a, len, cap, rfl, h0, h1, h2, h3, .inr ⟨by simp, by simp, ?_⟩⟩
    rcases h4 with ⟨-, h4⟩ | ⟨ho, -⟩
    · rcases h4 with ⟨hc, -⟩ | ⟨g, cur, ty, frz, fps, ha, hg, hs, hz, hfp, hr⟩
      · left
        have : len = 0 := by omega
        subst this
        exact List.eq_nil_of_length_eq_zero (by simpa using h1)
      · subst hfp
        refine .inr ⟨g, 0, cur, ty, frz, ha, hf g (by simp), hg, ?_, ?_⟩
        · have := Nat.mul_le_mul_right sz h2
          omega
        · simpa using RelDs.share hr (fun b hb => hf b (by simp [hb]))
    · simp at ho
theorem RelDs.share : ∀ {ds : List Dat} {vs : List Value} {fp : List Nat}, RelDs H R true ds vs fp → (∀ b, b ∈ fp → R' b) → RelDs H R' false ds vs []
  | [], _, _, h, _ => by simp [RelDs] at h ⊢; exact h.1
  | d :: ds, vs, fp, h, hf => by
    simp only [RelDs] at h ⊢
    obtain ⟨v, vs', f1, f2, rfl, rfl, h1, h2⟩ := h
    exact ⟨v, vs', [], [], rfl, rfl, RelD.share h1 (fun b hb => hf b (by simp [hb])), RelDs.share h2 (fun b hb => hf b (by simp [hb]))⟩
end
theorem RelDs.append : ∀ {ds es : List Dat} {vs us : List Value} {f g : List Nat}, RelDs H R own ds vs f → RelDs H R own es us g → RelDs H R own (ds ++ es) (vs ++ us) (f ++ g)
  | [], es, vs, us, f, g, h, k => by
    simp only [RelDs] at h
    obtain ⟨rfl, rfl⟩ := h
    simpa using k
  | d :: ds, es, vs, us, f, g, h, k => by
    simp only [RelDs] at h
    obtain ⟨v, vs', f1, f2, rfl, rfl, h1, h2⟩ := h
    simp only [List.cons_append, RelDs]
    exact ⟨v, vs' ++ us, f1, f2 ++ g, rfl, by simp, h1, RelDs.append h2 k⟩
theorem RelDs.split : ∀ {ds es : List Dat} {vs : List Value} {f : List Nat}, RelDs H R own (ds ++ es) vs f →
    ∃ f1 f2, f = f1 ++ f2 ∧ RelDs H R own ds (vs.take ds.length) f1 ∧ RelDs H R own es (vs.drop ds.length) f2
  | [], es, vs, f, h => ⟨[], f, rfl, by simp [RelDs], by simpa using h⟩
  | d :: ds, es, vs, f, h => by
    simp only [List.cons_append, RelDs] at h
    obtain ⟨v, vs', f1, f2, rfl, rfl, h1, h2⟩ := h
    obtain ⟨g1, g2, rfl, k1, k2⟩ := RelDs.split h2
    refine ⟨f1 ++ g1, g2, by simp, ?_, by simpa using k2⟩
    simp only [List.length_cons, List.take_succ_cons, RelDs]
    exact ⟨v, _, f1, g1, rfl, rfl, h1, k1⟩
def one1 : Value → Bool
  | .agg _ | .tuple _ => false
  | _ => true
theorem RelD.one1 {d : Dat} {v : Value} {fp : List Nat} (h : RelD H R own d v fp) : one1 v = true := by
  cases d <;> simp only [RelD] at h
  · obtain ⟨rfl, -⟩ := h; rfl
  · obtain ⟨rfl, -⟩ := h; rfl
  · obtain ⟨rfl, -⟩ := h; rfl
  · obtain ⟨a, l, c, rfl, -⟩ := h; rfl
theorem RelDs.one1 : ∀ {ds : List Dat} {vs : List Value} {fp : List Nat}, RelDs H R own ds vs fp → ∀ v ∈ vs, Ev.one1 v = true
  | [], vs, fp, h, v, hv => by simp [RelDs] at h; simp [h.1] at hv
  | d :: ds, vs, fp, h, v, hv => by
    simp only [RelDs] at h
    obtain ⟨u, vs', f1, f2, rfl, rfl, h1, h2⟩ := h
    rcases List.mem_cons.1 hv with rfl | hv
    · exact h1.one1
    · exact RelDs.one1 h2 v hv
end Go.Ev
namespace Go.Ev
def els : (c : CT) → Interp c → List (InterpL (elemTs c))
  | .sl ts, xs => List.map (fun x : InterpL ts => x) xs
  | .tree fs, xs => List.map (ofRT fs) xs
  | .bool, _ => [] | .int _, _ => [] | .str, _ => []
theorem CTs.size_pos : ∀ ts : CTs, 0 < ts.size
  | .one _ => by simp [CTs.size]
  | .cons _ _ => by simp [CTs.size]
theorem CTs.size_snoc (c : CT) : ∀ fs : CTs, (fs.snoc c).size = fs.size + 1
  | .one _ => rfl
  | .cons _ cs => by simp [CTs.size, CTs.size_snoc c cs]
theorem encL_length : ∀ (ts : CTs) (x : InterpL ts), (encL ts x).length = ts.size
  | .one c, x => by simp [encL, CTs.size]
  | .cons c cs, x => by simp [encL, CTs.size, encL_length cs x.2]
theorem encL_snoc (c : CT) : ∀ (fs : CTs) (x : InterpL fs) (y : Interp c), encL (fs.snoc c) (snocL fs c x y) = encL fs x ++ [enc c y]
  | .one d, x, y => by simp [encL, snocL]
  | .cons d ds, x, y => by simp [encL, snocL, encL_snoc c ds x.2 y]
theorem snoc_unsnoc (c : CT) : ∀ (fs : CTs) (x : InterpL (fs.snoc c)), snocL fs c (unsnocL fs c x).1 (unsnocL fs c x).2 = x
  | .one d, x => rfl
  | .cons d ds, x => by
    have h := snoc_unsnoc c ds x.2
    show (x.1, snocL ds c (unsnocL ds c x.2).1 (unsnocL ds c x.2).2) = _
    rw [h]
theorem ofRT_toRT (fs : CTs) (x : InterpL (fs.snoc (.tree fs))) : ofRT fs (toRT fs x) = x := snoc_unsnoc _ _ _
theorem RT.encs_eq {F : Type} (f : F → List Dat) (sz : Nat) : ∀ l : List (RT F), RT.encs f sz l = l.flatMap (RT.enc f sz)
  | [] => rfl
  | k :: ks => by simp [RT.encs, RT.encs_eq f sz ks]
theorem encL_ofRT (fs : CTs) (t : RT (InterpL fs)) : encL (fs.snoc (.tree fs)) (ofRT fs t) = RT.enc (encL fs) (fs.size + 1) t := by
  cases t with
  | mk x kids => exact encL_snoc (.tree fs) fs x kids
def cellsI (c : CT) (x : Interp c) : List Dat := (els c x).flatMap (encL (elemTs c))
theorem enc_sl {c : CT} (h : isSl c = true) (x : Interp c) : enc c x = .l (elemTs c).size (cellsI c x) := by
  cases c <;> simp [isSl] at h
  · simp [enc, cellsI, els, elemTs]
  · rename_i fs
    simp only [enc, cellsI, els, elemTs, CTs.size_snoc, RT.encs_eq]
    congr 1
    rw [List.flatMap_map]
    congr 1
    funext t
    rw [encL_ofRT]
theorem lenI_els {c : CT} (x : Interp c) : lenI c x = (els c x).length := by
  cases c <;> simp [lenI, els]
theorem getI_els {c : CT} (x : Interp c) (i : Nat) : getI c x i = (els c x)[i]? := by
  cases c <;> simp [getI, els, nth, elemTs]
theorem els_setI {c : CT} (x : Interp c) (i : Nat) (e : InterpL (elemTs c)) (h : isSl c = true) : els c (setI c x i e) = (els c x).set i e := by
  cases c <;> simp [isSl] at h
  · simp [setI, els]
  · rename_i fs
    simp only [setI, els, List.map_set]
    congr 1
    exact ofRT_toRT fs e
theorem els_appI {c : CT} (x y : Interp c) (h : isSl c = true) : els c (appI c x y) = els c x ++ els c y := by
  cases c <;> simp [isSl] at h
  · simp [appI, els]
  · simp only [appI, els]; exact List.map_append
theorem els_takeI {c : CT} (n : Nat) (x : Interp c) : els c (takeI c n x) = (els c x).take n := by
  cases c <;> simp [takeI, els, List.map_take]
theorem els_dropI {c : CT} (n : Nat) (x : Interp c) : els c (dropI c n x) = (els c x).drop n := by
  cases c <;> simp [dropI, els, List.map_drop]
theorem els_consI {c : CT} (e : InterpL (elemTs c)) (x : Interp c) (h : isSl c = true) : els c (consI c e x) = e :: els c x := by
  cases c <;> simp [isSl] at h
  · simp [consI, els]
  · rename_i fs
    simp only [consI, els, List.map_cons]
    congr 1
    exact ofRT_toRT fs e
theorem els_dflt {c : CT} : els c (dflt c) = [] := by
  cases c <;> simp [dflt, els]
theorem flatMap_len {α β : Type} (f : α → List β) (s : Nat) (hf : ∀ x, (f x).length = s) : ∀ l : List α, (l.flatMap f).length = l.length * s
  | [] => by simp
  | a :: l => by simp [flatMap_len f s hf l, hf, Nat.add_mul, Nat.add_comm]
theorem flatMap_take {α β : Type} (f : α → List β) (s : Nat) (hf : ∀ x, (f x).length = s) : ∀ (l : List α) (n : Nat), (l.take n).flatMap f = (l.flatMap f).take (n * s)
  | [], n => by simp
  | a :: l, 0 => by simp
  | a :: l, n + 1 => by
    simp only [List.take_succ_cons, List.flatMap_cons, flatMap_take f s hf l n, Nat.add_mul, Nat.one_mul]
    rw [List.take_append, hf, List.take_of_length_le (l := f a) (by rw [hf]; omega), Nat.add_sub_cancel]
theorem flatMap_drop {α β : Type} (f : α → List β) (s : Nat) (hf : ∀ x, (f x).length = s) : ∀ (l : List α) (n : Nat), (l.drop n).flatMap f = (l.flatMap f).drop (n * s)
  | [], n => by simp
  | a :: l, 0 => by simp
  | a :: l, n + 1 => by
    simp only [List.drop_succ_cons, List.flatMap_cons, flatMap_drop f s hf l n, Nat.add_mul, Nat.one_mul]
    rw [List.drop_append, hf, List.drop_of_length_le (l := f a) (by rw [hf]; omega), Nat.add_sub_cancel, List.nil_append]
theorem cellsI_length {c : CT} (x : Interp c) : (cellsI c x).length = lenI c x * (elemTs c).size := by
  rw [lenI_els]; exact flatMap_len _ _ (encL_length _) _
theorem cellsI_app {c : CT} (x y : Interp c) (h : isSl c = true) : cellsI c (appI c x y) = cellsI c x ++ cellsI c y := by
  simp [cellsI, els_appI x y h]
theorem cellsI_take {c : CT} (n : Nat) (x : Interp c) : cellsI c (takeI c n x) = (cellsI c x).take (n * (elemTs c).size) := by
  rw [cellsI, els_takeI]; exact flatMap_take _ _ (encL_length _) _ _
theorem cellsI_drop {c : CT} (n : Nat) (x : Interp c) : cellsI c (dropI c n x) = (cellsI c x).drop (n * (elemTs c).size) := by
  rw [cellsI, els_dropI]; exact flatMap_drop _ _ (encL_length _) _ _
theorem cellsI_get {c : CT} {x : Interp c} {i : Nat} {e : InterpL (elemTs c)} (h : getI c x i = some e) :
    cellsI c x = (cellsI c x).take (i * (elemTs c).size) ++ (encL (elemTs c) e ++ (cellsI c x).drop ((i + 1) * (elemTs c).size)) := by
  rw [← cellsI_take, ← cellsI_drop]
  simp only [cellsI, els_takeI, els_dropI]
  rw [getI_els] at h
  have hlt : i < (els c x).length := (List.getElem?_eq_some_iff.1 h).1
  conv => lhs; rw [← List.take_append_drop i (els c x), List.flatMap_append]
  congr 1
  rw [List.drop_eq_getElem_cons hlt]
  simp only [List.flatMap_cons]
  congr 2
  exact (List.getElem?_eq_some_iff.1 h).2
theorem cellsI_set {c : CT} (hc : isSl c = true) {x : Interp c} {i : Nat} (e : InterpL (elemTs c)) (h : i < lenI c x) :
    cellsI c (setI c x i e) = (cellsI c x).take (i * (elemTs c).size) ++ (encL (elemTs c) e ++ (cellsI c x).drop ((i + 1) * (elemTs c).size)) := by
  rw [← cellsI_take, ← cellsI_drop]
  simp only [cellsI, els_takeI, els_dropI, els_setI x i e hc]
  rw [lenI_els] at h
  rw [List.set_eq_take_append_cons_drop, if_pos h]
  simp
theorem lenI_set {c : CT} (x : Interp c) (i : Nat) (e : InterpL (elemTs c)) : lenI c (setI c x i e) = lenI c x := by
  cases c <;> simp [lenI, setI]
theorem lenI_app {c : CT} (x y : Interp c) (h : isSl c = true) : lenI c (appI c x y) = lenI c x + lenI c y := by
  rw [lenI_els, lenI_els, lenI_els, els_appI _ _ h, List.length_append]
theorem lenI_take {c : CT} (n : Nat) (x : Interp c) : lenI c (takeI c n x) = min n (lenI c x) := by
  rw [lenI_els, lenI_els, els_takeI, List.length_take]
theorem lenI_drop {c : CT} (n : Nat) (x : Interp c) : lenI c (dropI c n x) = lenI c x - n := by
  rw [lenI_els, lenI_els, els_dropI, List.length_drop]
end Go.Ev
namespace Go.Ev
inductive Cell where
  | undef
  | b (x : Bool)
  | i (k : IntKind) (n : Int)
  | s (x : Bytes)
  | sh (c : CT) (x : Interp c)
  | shn (c : CT) (x : Interp c)
  | nl
  | z0
  | ob (k ver : Nat) (vw : Option Nat)
  | gs (k ver wv : Nat) (pl : Option (Nat × Nat)) (c : CT) (x : Interp c)
  | nilp
  | pb (bx off : Nat)
  | pe (k ver : Nat) (i off : Nat)
  | pr (ts : CTs) (x : InterpL ts) (off : Nat)
  | nilf
  | pg (k ver wv : Nat) (ts : CTs) (x : InterpL ts) (off : Nat)
  | fn (f : FuncId) (fst caps : List Cell)
  | er (x : Bool)
instance : Inhabited Cell := ⟨.undef⟩
inductive TV where
  | one (c : Cell)
  | agg (cs : List Cell)
  | tup (vs : List TV)
instance : Inhabited TV := ⟨.one .undef⟩
def TV.cells : TV → List Cell
  | .one c => [c]
  | .agg cs => cs
  | .tup _ => []
structure DV where
  c : CT
  x : Interp c
structure OB where
  ver : Nat
  wv : Nat
  dat : Option DV
structure St where
  tmps : Nat → TV
  boxes : Nat → Option (List Cell)
  objs : Nat → OB
def upd {α : Type} (f : Nat → α) (k : Nat) (v : α) : Nat → α := fun j => cond (Nat.beq j k) v (f j)
theorem upd_same {α : Type} (f : Nat → α) (k : Nat) (v : α) : upd f k v k = v := by simp [upd]
theorem upd_ne {α : Type} (f : Nat → α) {k j : Nat} (v : α) (h : j ≠ k) : upd f k v j = f j := by
  have : Nat.beq j k = false := by
    cases hb : Nat.beq j k with
    | true => exact absurd (Nat.eq_of_beq_eq_true hb) h
    | false => rfl
  simp [upd, this]
theorem upd_comm {α : Type} (f : Nat → α) {k j : Nat} (u v : α) (h : j ≠ k) : upd (upd f k u) j v = upd (upd f j v) k u := by
  funext i
  by_cases h1 : i = j
  · subst h1; rw [upd_same, upd_ne _ _ h, upd_same]
  · rw [upd_ne _ _ h1]
    by_cases h2 : i = k
    · subst h2; rw [upd_same, upd_same]
    · rw [upd_ne _ _ h2, upd_ne _ _ h2, upd_ne _ _ h1]
def St.put (st : St) (dst : Option Nat) (v : TV) : St :=
  match dst with
  | some d => { st with tmps := upd st.tmps d v }
  | none => st
inductive M (α : Type) : Type 1 where
  | ret (a : α)
  | fail
  | rb (b : Nat) (k : List Cell → M α)
  | wb (b : Nat) (cs : List Cell) (m : M α)
  | nb (b : Nat) (cs : List Cell) (m : M α)
  | ro (k : Nat) (f : OB → M α)
  | wo (k : Nat) (o : OB) (m : M α)
  | opt {β : Type} (x : Option β) (f : β → M α)
  | br (x : Bool) (m1 m2 : M α)
def M.gd {α : Type} (x : Bool) (m : M α) : M α := .br x m .fail
structure Log where
  rd : List Nat
  wr : List Nat
def Log.none : Log := ⟨[], []⟩
def Log.r (l : Log) (n : Nat) : Log := ⟨n :: l.rd, l.wr⟩
def Log.w (l : Log) (n : Nat) : Log := ⟨l.rd, n :: l.wr⟩
def M.run {α : Type} : M α → St → Option (α × St × Log)
  | .ret a, st => some (a, st, .none)
  | .fail, _ => none
  | .rb b k, st => match st.boxes b with
    | some cs => ((k cs).run st).map fun r => (r.1, r.2.1, r.2.2.r (2 * b))
    | none => none
  | .wb b cs m, st => match st.boxes b with
    | some _ => (m.run { st with boxes := upd st.boxes b (some cs) }).map fun r => (r.1, r.2.1, r.2.2.w (2 * b))
    | none => none
  | .nb b cs m, st => match st.boxes b with
    | some _ => none
    | none => (m.run { st with boxes := upd st.boxes b (some cs) }).map fun r => (r.1, r.2.1, r.2.2.w (2 * b))
  | .ro k f, st => ((f (st.objs k)).run st).map fun r => (r.1, r.2.1, r.2.2.r (2 * k + 1))
  | .wo k o m, st => (m.run { st with objs := upd st.objs k o }).map fun r => (r.1, r.2.1, r.2.2.w (2 * k + 1))
  | .opt x f, st => x.bind fun y => (f y).run st
  | .br x m1 m2, st => match x with
    | true => m1.run st
    | false => m2.run st
def M.go {α R : Type} : M α → St → Log → (α → St → Log → Option R) → Option R
  | .ret a, st, l, K => K a st l
  | .fail, _, _, _ => none
  | .rb b k, st, l, K => match st.boxes b with
    | some cs => (k cs).go st (l.r (2 * b)) K
    | none => none
  | .wb b cs m, st, l, K => match st.boxes b with
    | some _ => m.go { st with boxes := upd st.boxes b (some cs) } (l.w (2 * b)) K
    | none => none
  | .nb b cs m, st, l, K => match st.boxes b with
    | some _ => none
    | none => m.go { st with boxes := upd st.boxes b (some cs) } (l.w (2 * b)) K
  | .ro k f, st, l, K => (f (st.objs k)).go st (l.r (2 * k + 1)) K
  | .wo k o m, st, l, K => m.go { st with objs := upd st.objs k o } (l.w (2 * k + 1)) K
  | .opt x f, st, l, K => x.bind fun y => (f y).go st l K
  | .br x m1 m2, st, l, K => cond x (m1.go st l K) (m2.go st l K)
def Log.sub (l l' : Log) : Prop := (∀ n ∈ l.rd, n ∈ l'.rd) ∧ (∀ n ∈ l.wr, n ∈ l'.wr)
theorem M.go_run {α R : Type} : ∀ (m : M α) (st : St) (l : Log) (K : α → St → Log → Option R) (r : R), m.go st l K = some r →
    ∃ a st' l0 l', m.run st = some (a, st', l0) ∧ K a st' l' = some r ∧ l.sub l' ∧ l0.sub l'
  | .ret a, st, l, K, r, h => ⟨a, st, .none, l, rfl, h, ⟨fun _ h => h, fun _ h => h⟩, ⟨by simp [Log.none], by simp [Log.none]⟩⟩
  | .fail, _, _, _, _, h => by simp [M.go] at h
  | .rb b k, st, l, K, r, h => by
    simp only [M.go] at h
    split at h
    · rename_i cs hb
      obtain ⟨a, st', l0, l', h1, h2, h3, h4⟩ := M.go_run _ _ _ _ _ h
      refine ⟨a, st', l0.r (2 * b), l', by simp [M.run, hb, h1], h2, ⟨fun n hn => h3.1 n (by simp [Log.r, hn]), fun n hn => h3.2 n (by simpa [Log.r] using hn)⟩, ?_, ?_⟩
      · intro n hn
        simp only [Log.r, List.mem_cons] at hn
        rcases hn with rfl | hn
        · exact h3.1 _ (by simp [Log.r])
        · exact h4.1 n hn
      · intro n hn; exact h4.2 n (by simpa [Log.r] using hn)
    · cases h
  | .wb b cs m, st, l, K, r, h => by
    simp only [M.go] at h
    split at h
    · rename_i cs' hb
      obtain ⟨a, st', l0, l', h1, h2, h3, h4⟩ := M.go_run _ _ _ _ _ h
      refine ⟨a, st', l0.w (2 * b), l', by simp [M.run, hb, h1], h2, ⟨fun n hn => h3.1 n (by simpa [Log.w] using hn), fun n hn => h3.2 n (by simp [Log.w, hn])⟩, ?_, ?_⟩
      · intro n hn; exact h4.1 n (by simpa [Log.w] using hn)
      · intro n hn
        simp only [Log.w, List.mem_cons] at hn
        rcases hn with rfl | hn
        · exact h3.2 _ (by simp [Log.w])
        · exact h4.2 n hn
    · cases h
  | .nb b cs m, st, l, K, r, h => by
    simp only [M.go] at h
    split at h
    · cases h
    · rename_i hb
      obtain ⟨a, st', l0, l', h1, h2, h3, h4⟩ := M.go_run _ _ _ _ _ h
      refine ⟨a, st', l0.w (2 * b), l', by simp [M.run, hb, h1], h2, ⟨fun n hn => h3.1 n (by simpa [Log.w] using hn), fun n hn => h3.2 n (by simp [Log.w, hn])⟩, ?_, ?_⟩
      · intro n hn; exact h4.1 n (by simpa [Log.w] using hn)
      · intro n hn
        simp only [Log.w, List.mem_cons] at hn
        rcases hn with rfl | hn
        · exact h3.2 _ (by simp [Log.w])
        · exact h4.2 n hn
  | .ro k f, st, l, K, r, h => by
    simp only [M.go] at h
    obtain ⟨a, st', l0, l', h1, h2, h3, h4⟩ := M.go_run _ _ _ _ _ h
    refine ⟨a, st', l0.r (2 * k + 1), l', by simp [M.run, h1], h2, ⟨fun n hn => h3.1 n (by simp [Log.r, hn]), fun n hn => h3.2 n (by simpa [Log.r] using hn)⟩, ?_, ?_⟩
    · intro n hn
      simp only [Log.r, List.mem_cons] at hn
      rcases hn with rfl | hn
      · exact h3.1 _ (by simp [Log.r])
      · exact h4.1 n hn
    · intro n hn; exact h4.2 n (by simpa [Log.r] using hn)
  | .wo k o m, st, l, K, r, h => by
    simp only [M.go] at h
    obtain ⟨a, st', l0, l', h1, h2, h3, h4⟩ := M.go_run _ _ _ _ _ h
    refine ⟨a, st', l0.w (2 * k + 1), l', by simp [M.run, h1], h2, ⟨fun n hn => h3.1 n (by simpa [Log.w] using hn), fun n hn => h3.2 n (by simp [Log.w, hn])⟩, ?_, ?_⟩
    · intro n hn; exact h4.1 n (by simpa [Log.w] using hn)
    · intro n hn
      simp only [Log.w, List.mem_cons] at hn
      rcases hn with rfl | hn
      · exact h3.2 _ (by simp [Log.w])
      · exact h4.2 n hn
  | .opt x f, st, l, K, r, h => by
    simp only [M.go] at h
    cases x with
    | none => simp at h
    | some y =>
      simp only [Option.bind_some] at h
      obtain ⟨a, st', l0, l', h1, h2, h3, h4⟩ := M.go_run _ _ _ _ _ h
      exact ⟨a, st', l0, l', by simp [M.run, h1], h2, h3, h4⟩
  | .br x m1 m2, st, l, K, r, h => by
    simp only [M.go] at h
    cases x with
    | true =>
      obtain ⟨a, st', l0, l', h1, h2, h3, h4⟩ := M.go_run _ _ _ _ _ h
      exact ⟨a, st', l0, l', by simp [M.run, h1], h2, h3, h4⟩
    | false =>
      obtain ⟨a, st', l0, l', h1, h2, h3, h4⟩ := M.go_run _ _ _ _ _ h
      exact ⟨a, st', l0, l', by simp [M.run, h1], h2, h3, h4⟩
def same (st st' : St) (n : Nat) : Prop := (∀ b, n = 2 * b → st'.boxes b = st.boxes b) ∧ (∀ k, n = 2 * k + 1 → st'.objs k = st.objs k)
theorem M.run_keeps {α : Type} : ∀ (m : M α) (st : St) (a : α) (st' : St) (l : Log), m.run st = some (a, st', l) → st'.tmps = st.tmps ∧ ∀ n, n ∉ l.wr → same st st' n
  | .ret _, st, a, st', l, h => by
    simp only [M.run, Option.some.injEq, Prod.mk.injEq] at h
    obtain ⟨-, rfl, -⟩ := h
    exact ⟨rfl, fun n _ => ⟨fun _ _ => rfl, fun _ _ => rfl⟩⟩
  | .fail, _, _, _, _, h => by simp [M.run] at h
  | .rb b k, st, a, st', l, h => by
    simp only [M.run] at h
    split at h
    · simp only [Option.map_eq_some_iff] at h
      obtain ⟨⟨a1, s1, l1⟩, h1, h2⟩ := h
      simp only [Prod.mk.injEq] at h2
      obtain ⟨rfl, rfl, rfl⟩ := h2
      have hk := M.run_keeps _ _ _ _ _ h1
      exact ⟨hk.1, fun n hn => hk.2 n (by simpa [Log.r] using hn)⟩
    · cases h
  | .wb b cs m, st, a, st', l, h => by
    simp only [M.run] at h
    split at h
    · simp only [Option.map_eq_some_iff] at h
      obtain ⟨⟨a1, s1, l1⟩, h1, h2⟩ := h
      simp only [Prod.mk.injEq] at h2
      obtain ⟨rfl, rfl, rfl⟩ := h2
      obtain ⟨k1, k2⟩ := M.run_keeps _ _ _ _ _ h1
      refine ⟨k1, fun n hn => ?_⟩
      simp only [Log.w, List.mem_cons, not_or] at hn
      obtain ⟨g1, g2⟩ := k2 n hn.2
      exact ⟨fun b' hb' => (g1 b' hb').trans (upd_ne _ _ (by omega)), g2⟩
    · cases h
  | .nb b cs m, st, a, st', l, h => by
    simp only [M.run] at h
    split at h
    · cases h
    · simp only [Option.map_eq_some_iff] at h
      obtain ⟨⟨a1, s1, l1⟩, h1, h2⟩ := h
      simp only [Prod.mk.injEq] at h2
      obtain ⟨rfl, rfl, rfl⟩ := h2
      obtain ⟨k1, k2⟩ := M.run_keeps _ _ _ _ _ h1
      refine ⟨k1, fun n hn => ?_⟩
      simp only [Log.w, List.mem_cons, not_or] at hn
      obtain ⟨g1, g2⟩ := k2 n hn.2
      exact ⟨fun b' hb' => (g1 b' hb').trans (upd_ne _ _ (by omega)), g2⟩
  | .ro k f, st, a, st', l, h => by
    simp only [M.run, Option.map_eq_some_iff] at h
    obtain ⟨⟨a1, s1, l1⟩, h1, h2⟩ := h
    simp only [Prod.mk.injEq] at h2
    obtain ⟨rfl, rfl, rfl⟩ := h2
    have hk := M.run_keeps _ _ _ _ _ h1
    exact ⟨hk.1, fun n hn => hk.2 n (by simpa [Log.r] using hn)⟩
  | .wo k o m, st, a, st', l, h => by
    simp only [M.run, Option.map_eq_some_iff] at h
    obtain ⟨⟨a1, s1, l1⟩, h1, h2⟩ := h
    simp only [Prod.mk.injEq] at h2
    obtain ⟨rfl, rfl, rfl⟩ := h2
    obtain ⟨k1, k2⟩ := M.run_keeps _ _ _ _ _ h1
    refine ⟨k1, fun n hn => ?_⟩
    simp only [Log.w, List.mem_cons, not_or] at hn
    obtain ⟨g1, g2⟩ := k2 n hn.2
    exact ⟨g1, fun k' hk' => (g2 k' hk').trans (upd_ne _ _ (by omega))⟩
  | .opt x f, st, a, st', l, h => by
    simp only [M.run, Option.bind_eq_some_iff] at h
    obtain ⟨y, -, h⟩ := h
    exact M.run_keeps _ _ _ _ _ h
  | .br x m1 m2, st, a, st', l, h => by
    cases x <;> simp only [M.run] at h <;> exact M.run_keeps _ _ _ _ _ h
theorem M.run_local {α : Type} : ∀ (m : M α) (st : St) (a : α) (st' : St) (l : Log), m.run st = some (a, st', l) →
    ∀ s : St, (∀ n, n ∈ l.rd ∨ n ∈ l.wr → same st s n) → ∃ s', m.run s = some (a, s', l) ∧ ∀ n, (n ∈ l.wr → same st' s' n) ∧ (n ∉ l.wr → same s s' n)
  | .ret _, st, a, st', l, h, s, hs => by
    simp only [M.run, Option.some.injEq, Prod.mk.injEq] at h
    obtain ⟨rfl, rfl, rfl⟩ := h
    exact ⟨s, rfl, fun n => ⟨fun h => by simp [Log.none] at h, fun _ => ⟨fun _ _ => rfl, fun _ _ => rfl⟩⟩⟩
  | .fail, _, _, _, _, h, _, _ => by simp [M.run] at h
  | .rb b k, st, a, st', l, h, s, hs => by
    simp only [M.run] at h
    split at h
    · rename_i cs hb
      simp only [Option.map_eq_some_iff] at h
      obtain ⟨⟨a1, s1, l1⟩, h1, h2⟩ := h
      simp only [Prod.mk.injEq] at h2
      obtain ⟨rfl, rfl, rfl⟩ := h2
      have hb' : s.boxes b = some cs := ((hs (2 * b) (.inl (by simp [Log.r]))).1 b rfl).trans hb
      obtain ⟨s', hr, hk⟩ := M.run_local _ _ _ _ _ h1 s (fun n hn => hs n (hn.imp (fun h => by simp [Log.r, h]) (fun h => by simpa [Log.r] using h)))
      exact ⟨s', by simp [M.run, hb', hr], hk⟩
    · cases h
  | .wb b cs m, st, a, st', l, h, s, hs => by
    simp only [M.run] at h
    split at h
    · rename_i cs' hb
      simp only [Option.map_eq_some_iff] at h
      obtain ⟨⟨a1, s1, l1⟩, h1, h2⟩ := h
      simp only [Prod.mk.injEq] at h2
      obtain ⟨rfl, rfl, rfl⟩ := h2
      have hb' : s.boxes b = some cs' := ((hs (2 * b) (.inr (by simp [Log.w]))).1 b rfl).trans hb
      have hkeep := (M.run_keeps _ _ _ _ _ h1).2
      obtain ⟨s', hr, hk⟩ := M.run_local _ _ _ _ _ h1 { s with boxes := upd s.boxes b (some cs) } (fun n hn => by
        obtain ⟨g1, g2⟩ := hs n (hn.imp (fun h => by simpa [Log.w] using h) (fun h => by simp [Log.w, h]))
        refine ⟨fun b' hb' => ?_, g2⟩
        by_cases e : b' = b
        · subst e; simp [upd_same]
        · simp only [upd_ne _ _ e]; exact g1 b' hb')
      refine ⟨s', by simp [M.run, hb', hr], fun n => ?_⟩
      obtain ⟨k1, k2⟩ := hk n
      by_cases hn : n ∈ l1.wr
      · exact ⟨fun _ => k1 hn, fun h => absurd (by simp [Log.w, hn]) h⟩
      · obtain ⟨q1, q2⟩ := k2 hn
        obtain ⟨p1, p2⟩ := hkeep n hn
        by_cases e : n = 2 * b
        · subst e
          refine ⟨fun _ => ⟨fun b' hb' => ?_, fun k' hk' => by omega⟩, fun h => absurd (by simp [Log.w]) h⟩
          have : b' = b := by omega
          subst this
          rw [q1 b' rfl, p1 b' rfl]; simp [upd_same]
        · refine ⟨fun h => ?_, fun _ => ⟨fun b' hb' => ?_, q2⟩⟩
          · simp only [Log.w, List.mem_cons] at h; exact absurd h (by simp [e, hn])
          · rw [q1 b' hb']; exact upd_ne _ _ (by omega)
    · cases h
  | .nb b cs m, st, a, st', l, h, s, hs => by
    simp only [M.run] at h
    split at h
    · cases h
    · rename_i hb
      simp only [Option.map_eq_some_iff] at h
      obtain ⟨⟨a1, s1, l1⟩, h1, h2⟩ := h
      simp only [Prod.mk.injEq] at h2
      obtain ⟨rfl, rfl, rfl⟩ := h2
      have hb' : s.boxes b = none := ((hs (2 * b) (.inr (by simp [Log.w]))).1 b rfl).trans hb
      have hkeep := (M.run_keeps _ _ _ _ _ h1).2
      obtain ⟨s', hr, hk⟩ := M.run_local _ _ _ _ _ h1 { s with boxes := upd s.boxes b (some cs) } (fun n hn => by
        obtain ⟨g1, g2⟩ := hs n (hn.imp (fun h => by simpa [Log.w] using h) (fun h => by simp [Log.w, h]))
        refine ⟨fun b' hb' => ?_, g2⟩
        by_cases e : b' = b
        · subst e; simp [upd_same]
        · simp only [upd_ne _ _ e]; exact g1 b' hb')
      refine ⟨s', by simp [M.run, hb', hr], fun n => ?_⟩
      obtain ⟨k1, k2⟩ := hk n
      by_cases hn : n ∈ l1.wr
      · exact ⟨fun _ => k1 hn, fun h => absurd (by simp [Log.w, hn]) h⟩
      · obtain ⟨q1, q2⟩ := k2 hn
        obtain ⟨p1, p2⟩ := hkeep n hn
        by_cases e : n = 2 * b
        · subst e
          refine ⟨fun _ => ⟨fun b' hb' => ?_, fun k' hk' => by omega⟩, fun h => absurd (by simp [Log.w]) h⟩
          have : b' = b := by omega
          subst this
          rw [q1 b' rfl, p1 b' rfl]; simp [upd_same]
        · refine ⟨fun h => ?_, fun _ => ⟨fun b' hb' => ?_, q2⟩⟩
          · simp only [Log.w, List.mem_cons] at h; exact absurd h (by simp [e, hn])
          · rw [q1 b' hb']; exact upd_ne _ _ (by omega)
  | .ro k f, st, a, st', l, h, s, hs => by
    simp only [M.run, Option.map_eq_some_iff] at h
    obtain ⟨⟨a1, s1, l1⟩, h1, h2⟩ := h
    simp only [Prod.mk.injEq] at h2
    obtain ⟨rfl, rfl, rfl⟩ := h2
    have ho : s.objs k = st.objs k := (hs (2 * k + 1) (.inl (by simp [Log.r]))).2 k rfl
    obtain ⟨s', hr, hk⟩ := M.run_local _ _ _ _ _ h1 s (fun n hn => hs n (hn.imp (fun h => by simp [Log.r, h]) (fun h => by simpa [Log.r] using h)))
    exact ⟨s', by simp [M.run, ho, hr], hk⟩
  | .wo k o m, st, a, st', l, h, s, hs => by
    simp only [M.run, Option.map_eq_some_iff] at h
    obtain ⟨⟨a1, s1, l1⟩, h1, h2⟩ := h
    simp only [Prod.mk.injEq] at h2
    obtain ⟨rfl, rfl, rfl⟩ := h2
    have hkeep := (M.run_keeps _ _ _ _ _ h1).2
    obtain ⟨s', hr, hk⟩ := M.run_local _ _ _ _ _ h1 { s with objs := upd s.objs k o } (fun n hn => by
      obtain ⟨g1, g2⟩ := hs n (hn.imp (fun h => by simpa [Log.w] using h) (fun h => by simp [Log.w, h]))
      refine ⟨g1, fun k' hk' => ?_⟩
      by_cases e : k' = k
      · subst e; simp [upd_same]
      · simp only [upd_ne _ _ e]; exact g2 k' hk')
    refine ⟨s', by simp [M.run, hr], fun n => ?_⟩
    obtain ⟨k1, k2⟩ := hk n
    by_cases hn : n ∈ l1.wr
    · exact ⟨fun _ => k1 hn, fun h => absurd (by simp [Log.w, hn]) h⟩
    · obtain ⟨q1, q2⟩ := k2 hn
      obtain ⟨p1, p2⟩ := hkeep n hn
      by_cases e : n = 2 * k + 1
      · subst e
        refine ⟨fun _ => ⟨fun b' hb' => by omega, fun k' hk' => ?_⟩, fun h => absurd (by simp [Log.w]) h⟩
        have : k' = k := by omega
        subst this
        rw [q2 k' rfl, p2 k' rfl]; simp [upd_same]
      · refine ⟨fun h => ?_, fun _ => ⟨q1, fun k' hk' => ?_⟩⟩
        · simp only [Log.w, List.mem_cons] at h; exact absurd h (by simp [e, hn])
        · rw [q2 k' hk']; exact upd_ne _ _ (by omega)
  | .opt x f, st, a, st', l, h, s, hs => by
    simp only [M.run, Option.bind_eq_some_iff] at h
    obtain ⟨y, rfl, h⟩ := h
    obtain ⟨s', hr, hk⟩ := M.run_local _ _ _ _ _ h s hs
    exact ⟨s', by simp [M.run, hr], hk⟩
  | .br x m1 m2, st, a, st', l, h, s, hs => by
    cases x <;> simp only [M.run] at h <;>
    · obtain ⟨s', hr, hk⟩ := M.run_local _ _ _ _ _ h s hs
      exact ⟨s', by simp [M.run, hr], hk⟩
end Go.Ev
namespace Go.Ev
inductive U where
  | bool
  | int (k : IntKind)
  | str
  | slice (e : TypeId)
  | struct (fs : List (Nat × TypeId))
  | ptr
  | func
  | iface
  | other
structure TyI where
  u : U
  size : Nat
  bytes : Nat
  zero : List Cell
  cts : Option CTs
  eq : Bool
def castI (c c' : CT) (x : Interp c) : Option (Interp c') :=
  if h : c.beq c' = true then some (CT.eq_of_beq c c' h ▸ x) else none
def nmT (d j : Nat) : Nat := 2 * (64 * d + j)
def nmB (b off : Nat) : Nat := 2 * (64 * b + off) + 1
def dstN : Option Nat → Nat
  | some d => d
  | none => 9999
def vwI (c : CT) (vw : Option Nat) (x : Interp c) : Interp c :=
  match vw with
  | none => x
  | some n => takeI c n x
def vwOk (c : CT) (vw : Option Nat) (x : Interp c) : Bool :=
  match vw with
  | none => true
  | some n => Nat.ble n (lenI c x)
section
variable {α : Type}
def M.tv1 (v : TV) (k : Cell → M α) : M α :=
  match v with
  | .one c => k c
  | _ => .fail
def cellsM (v : TV) (k : List Cell → M α) : M α :=
  match v with
  | .one .undef => .fail
  | .one c => k [c]
  | .agg cs => k cs
  | .tup _ => .fail
def rdSl (c : Cell) (nil : M α) (k : (c : CT) → Interp c → M α) : M α :=
  match c with
  | .nl => nil
  | .z0 => nil
  | .sh c x => k c x
  | .shn c x => k c x
  | .ob n v vw => .ro n fun o => match o.dat with
    | some d => .gd (Nat.beq v o.ver) (.gd (vwOk d.c vw d.x) (k d.c (vwI d.c vw d.x)))
    | none => .fail
  | .gs n v wv _ c x => .ro n fun o => match o.dat with
    | some _ => .gd (Nat.beq v o.ver) (.gd (Nat.beq wv o.wv) (k c x))
    | none => .fail
  | _ => .fail
def newOb (nm : Nat) (c : CT) (x : Interp c) (k : Cell → M α) : M α :=
  .ro nm fun o => match o.dat with
    | none => .wo nm ⟨o.ver + 1, 0, some ⟨c, x⟩⟩ (k (.ob nm (o.ver + 1) none))
    | some _ => .fail
def getZ (c : CT) (x : Interp c) (i : Int) : Option (InterpL (elemTs c)) :=
  cond (decide (0 ≤ i)) (getI c x i.toNat) none
def nthZ (s : Bytes) (i : Int) : Option UInt8 :=
  cond (decide (0 ≤ i)) (nth s i.toNat) none
def takeOb (c : CT) (v : Cell) (k : Interp c → M α) : M α :=
  match v with
  | .nl => .gd (isSl c) (k (dflt c))
  | .z0 => .gd (isSl c) (k (dflt c))
  | .ob n v vw => .ro n fun o => match o.dat with
    | some d => .gd (Nat.beq v o.ver) (.gd (vwOk d.c vw d.x) (.wo n ⟨o.ver + 1, 0, none⟩ (.opt (castI d.c c (vwI d.c vw d.x)) k)))
    | none => .fail
  | .gs n v wv (some _) c' x => .ro n fun o => match o.dat with
    | some _ => .gd (Nat.beq v o.ver) (.gd (Nat.beq wv o.wv) (.wo n ⟨o.ver + 1, 0, none⟩ (.opt (castI c' c x) k)))
    | none => .fail
  | _ => .fail
def packC : (c : CT) → Cell → (Interp c → M α) → M α
  | .bool, .b x, k => k x
  | .int kk, .i kk' n, k => .gd (decide (kk = kk')) (k (intOfVal kk n))
  | .str, .s x, k => k x
  | .sl ts, v, k => takeOb (.sl ts) v k
  | .tree fs, v, k => takeOb (.tree fs) v k
  | _, _, _ => .fail
def packL : (ts : CTs) → List Cell → (InterpL ts → M α) → M α
  | .one c, [v], k => packC c v k
  | .cons c cs, v :: vs, k => packC c v fun x => packL cs vs fun y => k (x, y)
  | _, _, _ => .fail
def patchL : (ts : CTs) → Nat → List Cell → InterpL ts → (InterpL ts → M α) → M α
  | .one c, 0, [v], _, k => packC c v k
  | .one _, 0, [], e, k => k e
  | .cons _ _, 0, [], e, k => k e
  | .cons c cs, 0, v :: vs, e, k => packC c v fun x => patchL cs 0 vs e.2 fun y => k (x, y)
  | .cons _ cs, s + 1, vs, e, k => patchL cs s vs e.2 fun y => k (e.1, y)
  | _, _, _, _, _ => .fail
end
def unC (f : Nat → (c : CT) → Interp c → Cell) (j : Nat) : (c : CT) → Interp c → Cell
  | .bool, x => .b x
  | .int k, x => .i k (intVal k x)
  | .str, x => .s x
  | .sl ts, x => f j (.sl ts) x
  | .tree fs, x => f j (.tree fs) x
def unL (f : Nat → (c : CT) → Interp c → Cell) : Nat → (ts : CTs) → InterpL ts → List Cell
  | j, .one c, x => [unC f j c x]
  | j, .cons c cs, x => unC f j c x.1 :: unL f (j + 1) cs x.2
def shC (_ : Nat) (c : CT) (x : Interp c) : Cell := .sh c x
def gsC (k ver wv i j : Nat) (c : CT) (x : Interp c) : Cell := .gs k ver wv (some (i, j)) c x
def guC (k ver wv : Nat) (_ : Nat) (c : CT) (x : Interp c) : Cell := .gs k ver wv none c x
def mkTV (agg : Bool) (cs : List Cell) : TV :=
  match agg, cs with
  | false, [c] => .one c
  | true, cs => .agg cs
  | _, _ => .one .undef
def sub (cs : List Cell) (off n : Nat) : List Cell := (cs.drop off).take n
def ldM (agg : Bool) (n : Nat) (p : Cell) : M TV :=
  match p with
  | .pb b off => .rb b fun cs => .gd (Nat.ble (off + n) cs.length) (.ret (mkTV agg (sub cs off n)))
  | .pe k v i off => .ro k fun o => match o.dat with
    | some d => .gd (Nat.beq v o.ver) (.opt (getI d.c d.x i) fun e => .gd (Nat.ble (off + n) (elemTs d.c).size) (.ret (mkTV agg (sub (unL (gsC k o.ver o.wv i) 0 (elemTs d.c) e) off n))))
    | none => .fail
  | .pr ts e off => .gd (Nat.ble (off + n) ts.size) (.ret (mkTV agg (sub (unL shC 0 ts e) off n)))
  | .pg k v wv ts e off => .ro k fun o => match o.dat with
    | some _ => .gd (Nat.beq v o.ver) (.gd (Nat.beq wv o.wv) (.gd (Nat.ble (off + n) ts.size) (.ret (mkTV agg (sub (unL (guC k v wv) 0 ts e) off n)))))
    | none => .fail
  | _ => .fail
def stM (n : Nat) (p : Cell) (vs : List Cell) : M TV :=
  .gd (Nat.beq vs.length n) <|
  match p with
  | .pb b off => .rb b fun cs => .gd (Nat.ble (off + n) cs.length) (.wb b (cs.take off ++ (vs ++ cs.drop (off + n))) (.ret (.one .undef)))
  | .pe k v i off => .ro k fun o => match o.dat with
    | some d => .gd (Nat.beq v o.ver) (.opt (getI d.c d.x i) fun e => patchL (elemTs d.c) off vs e fun e' =>
        .ro k fun o' => .gd (o'.dat.isSome) (.wo k ⟨o.ver, o.wv + 1, some ⟨d.c, setI d.c d.x i e'⟩⟩ (.ret (.one .undef))))
    | none => .fail
  | _ => .fail
def andL : List Bool → Bool
  | [] => true
  | [b] => b
  | b :: bs => b && andL bs
def eqCell : Cell → Cell → Option Bool
  | .b x, .b y => some (x == y)
  | .i k x, .i k' y => cond (decide (k = k')) (some (x == y)) none
  | .s x, .s y => some (x == y)
  | _, _ => none
def eqCells : List Cell → List Cell → Option (List Bool)
  | [], [] => some []
  | x :: xs, y :: ys => match eqCell x y, eqCells xs ys with
    | some b, some bs => some (b :: bs)
    | _, _ => none
  | _, _ => none
def intBitsV (op : BinOp) (k : IntKind) (x y : Int) : Int :=
  match op with
  | .and => k.wrap (BitVec.ofInt k.bits x &&& BitVec.ofInt k.bits y).toNat
  | .or => k.wrap (BitVec.ofInt k.bits x ||| BitVec.ofInt k.bits y).toNat
  | .xor => k.wrap (BitVec.ofInt k.bits x ^^^ BitVec.ofInt k.bits y).toNat
  | _ => k.wrap (BitVec.ofInt k.bits x &&& ~~~(BitVec.ofInt k.bits y)).toNat
def mx : Nat := 9223372036854775807
def big : Nat := 137438953472
def c1 (c : Cell) : M TV := .ret (.one c)
def uB : Option TyI → Bool
  | some ⟨.bool, _, _, _, _, _⟩ => true
  | _ => false
def uF : Option TyI → Bool
  | some ⟨.iface, _, _, _, _, _⟩ => true
  | _ => false
def uS : Option TyI → Bool
  | some ⟨.slice _, _, _, _, _, _⟩ => true
  | _ => false
def uE : Option TyI → Bool
  | some i => i.eq
  | none => false
def isCo : Operand → Bool
  | .const _ => true
  | _ => false
def binM (ti : Option TyI) (cy : Bool) (op : BinOp) (x y : TV) : M TV :=
  match op, x, y with
  | .shl, .one (.i k a), .one (.i _ b) => .gd (decide (0 ≤ b)) (c1 (.i k (k.wrap (a * 2 ^ (min b.toNat k.bits)))))
  | .shr, .one (.i k a), .one (.i _ b) => .gd (decide (0 ≤ b)) (c1 (.i k (a.fdiv (2 ^ (min b.toNat k.bits)))))
  | .add, .one (.i k a), .one (.i k' b) => .gd (decide (k = k')) (c1 (.i k (k.wrap (a + b))))
  | .sub, .one (.i k a), .one (.i k' b) => .gd (decide (k = k')) (c1 (.i k (k.wrap (a - b))))
  | .mul, .one (.i k a), .one (.i k' b) => .gd (decide (k = k')) (c1 (.i k (k.wrap (a * b))))
  | .quo, .one (.i k a), .one (.i k' b) => .gd (decide (k = k')) (.gd (b != 0) (c1 (.i k (k.wrap (a.tdiv b)))))
  | .rem, .one (.i k a), .one (.i k' b) => .gd (decide (k = k')) (.gd (b != 0) (c1 (.i k (a.tmod b))))
  | .and, .one (.i k a), .one (.i k' b) => .gd (decide (k = k')) (c1 (.i k (intBitsV .and k a b)))
  | .or, .one (.i k a), .one (.i k' b) => .gd (decide (k = k')) (c1 (.i k (intBitsV .or k a b)))
  | .xor, .one (.i k a), .one (.i k' b) => .gd (decide (k = k')) (c1 (.i k (intBitsV .xor k a b)))
  | .andNot, .one (.i k a), .one (.i k' b) => .gd (decide (k = k')) (c1 (.i k (intBitsV .andNot k a b)))
  | .eql, .one (.i k a), .one (.i k' b) => .gd (decide (k = k')) (c1 (.b (a == b)))
  | .neq, .one (.i k a), .one (.i k' b) => .gd (decide (k = k')) (c1 (.b (a != b)))
  | .lss, .one (.i k a), .one (.i k' b) => .gd (decide (k = k')) (c1 (.b (decide (a < b))))
  | .leq, .one (.i k a), .one (.i k' b) => .gd (decide (k = k')) (c1 (.b (decide (a ≤ b))))
  | .gtr, .one (.i k a), .one (.i k' b) => .gd (decide (k = k')) (c1 (.b (decide (b < a))))
  | .geq, .one (.i k a), .one (.i k' b) => .gd (decide (k = k')) (c1 (.b (decide (b ≤ a))))
  | .add, .one (.s a), .one (.s b) => .gd (Nat.ble (a.length + b.length) mx) (c1 (.s (a ++ b)))
  | .eql, .one (.s a), .one (.s b) => c1 (.b (a == b))
  | .neq, .one (.s a), .one (.s b) => c1 (.b (!(a == b)))
  | .lss, .one (.s a), .one (.s b) => c1 (.b (Op.bytesLess a b))
  | .leq, .one (.s a), .one (.s b) => c1 (.b (Op.bytesLess a b || a == b))
  | .gtr, .one (.s a), .one (.s b) => c1 (.b (!(Op.bytesLess a b || a == b)))
  | .geq, .one (.s a), .one (.s b) => c1 (.b (!(Op.bytesLess a b)))
  | .eql, .one (.b a), .one (.b b) => .gd (uB ti) (c1 (.b (a == b)))
  | .neq, .one (.b a), .one (.b b) => .gd (uB ti) (c1 (.b (!(a == b))))
  | .eql, .one (.er a), .one (.er false) => .gd (uF ti) (.gd cy (c1 (.b (!a))))
  | .neq, .one (.er a), .one (.er false) => .gd (uF ti) (.gd cy (c1 (.b a)))
  | .eql, .agg xs, .agg ys => .gd (uE ti) (match eqCells xs ys with
    | some bs => c1 (.b (andL bs))
    | none => .fail)
  | .neq, .agg xs, .agg ys => .gd (uE ti) (match eqCells xs ys with
    | some bs => c1 (.b (!andL bs))
    | none => .fail)
  | .eql, .one .nl, .one .nl => .gd (uS ti) (c1 (.b true))
  | .eql, .one (.shn _ _), .one .nl => .gd (uS ti) (c1 (.b false))
  | _, _, _ => .fail
def cB : CT := .sl (.one (.int .u8))
def uStr : Option TyI → Bool
  | some ⟨.str, _, _, _, _, _⟩ => true
  | _ => false
def okC (ct : Option CT) (c : CT) : Bool :=
  match ct with
  | some d => d.beq c
  | none => false
def lenM (ti : Option TyI) (c : Cell) : M TV :=
  match c with
  | .s x => .gd (uStr ti) (c1 (.i .i64 (x.length : Int)))
  | c => .gd (uS ti) (rdSl c (c1 (.i .i64 0)) fun c x => c1 (.i .i64 (lenI c x : Int)))
def bnd (len : Nat) (lo hi : Option TV) (k : Nat → Nat → M TV) : M TV :=
  match lo, hi with
  | none, none => k 0 len
  | none, some (.one (.i _ h)) => .gd (decide (0 ≤ h ∧ h ≤ len)) (k 0 h.toNat)
  | some (.one (.i _ l)), none => .gd (decide (0 ≤ l ∧ l ≤ len)) (k l.toNat len)
  | some (.one (.i _ l)), some (.one (.i _ h)) => .gd (decide (0 ≤ l ∧ l ≤ h ∧ h ≤ len)) (k l.toNat h.toNat)
  | _, _ => .fail
def sliceM (ti : Option TyI) (ct : Option CT) (x : TV) (lo hi : Option TV) : M TV :=
  match x with
  | .one (.s s) => .gd (uStr ti) (bnd s.length lo hi fun l h => c1 (.s ((s.drop l).take (h - l))))
  | .one .nl => .gd ct.isSome (bnd 0 lo hi fun _ _ => c1 .nl)
  | .one .z0 => .gd ct.isSome (bnd 0 lo hi fun _ _ => c1 .z0)
  | .one (.sh c x) => .gd (okC ct c) (bnd (lenI c x) lo hi fun l h => c1 (.sh c (takeI c (h - l) (dropI c l x))))
  | .one (.shn c x) => .gd (okC ct c) (bnd (lenI c x) lo hi fun l h => c1 (.shn c (takeI c (h - l) (dropI c l x))))
  | .one (.gs n v wv pl c x) => .gd (okC ct c) (rdSl (.gs n v wv pl c x) .fail fun _ _ => bnd (lenI c x) lo hi fun l h => c1 (.gs n v wv none c (takeI c (h - l) (dropI c l x))))
  | .one (.ob n v vw) => .ro n fun o => match o.dat with
    | some d => .gd (Nat.beq v o.ver) (.gd (vwOk d.c vw d.x) (.gd (okC ct d.c) (match lo with
      | none => bnd (lenI d.c (vwI d.c vw d.x)) none hi fun _ h => c1 (.ob n v (some h))
      | some l => bnd (lenI d.c (vwI d.c vw d.x)) (some l) hi fun l h => c1 (.gs n v o.wv none d.c (takeI d.c (h - l) (dropI d.c l (vwI d.c vw d.x)))))))
    | none => .fail
  | _ => .fail
def indexM (ti : Option TyI) (x i : TV) : M TV :=
  match x, i with
  | .one (.s s), .one (.i _ n) => .gd (uStr ti) (.opt (nthZ s n) fun b => c1 (.i .u8 (b.toNat : Int)))
  | _, _ => .fail
def indexAddrM (ct : Option CT) (x i : TV) : M TV :=
  match x, i with
  | .one (.sh c x), .one (.i _ n) => .gd (okC ct c) (.opt (getZ c x n) fun e => c1 (.pr (elemTs c) e 0))
  | .one (.shn c x), .one (.i _ n) => .gd (okC ct c) (.opt (getZ c x n) fun e => c1 (.pr (elemTs c) e 0))
  | .one (.ob k v vw), .one (.i _ n) => .ro k fun o => match o.dat with
    | some d => .gd (Nat.beq v o.ver) (.gd (vwOk d.c vw d.x) (.gd (okC ct d.c) (.gd (decide (0 ≤ n ∧ n < lenI d.c (vwI d.c vw d.x))) (c1 (.pe k v n.toNat 0)))))
    | none => .fail
  | .one (.gs k v wv pl c x), .one (.i _ n) => .gd (okC ct c) (rdSl (.gs k v wv pl c x) .fail fun _ _ => .opt (getZ c x n) fun e => c1 (.pg k v wv (elemTs c) e 0))
  | _, _ => .fail
def fieldAddrM (o : Nat) (p : TV) : M TV :=
  match p with
  | .one (.pb b off) => c1 (.pb b (off + o))
  | .one (.pe k v i off) => c1 (.pe k v i (off + o))
  | .one (.pr ts x off) => c1 (.pr ts x (off + o))
  | .one (.pg k v wv ts x off) => c1 (.pg k v wv ts x (off + o))
  | _ => .fail
def flatCs : CTs → Bool
  | .one c => !isSl c
  | .cons c cs => !isSl c && flatCs cs
def uOf (T : TypeId → Option TyI) (t : TypeId) : Option U := (T t).map TyI.u
def ctOf (T : TypeId → Option TyI) (t : TypeId) : Option CT :=
  match T t with
  | some ⟨.slice _, _, _, _, some (.one c), _⟩ => cond (isSl c) (some c) none
  | _ => none
def srcM {α : Type} (c : CT) (x : TV) (k : Interp c → M α) : M α :=
  match x with
  | .one (.s s) => .opt (castI cB c s) k
  | .one v => cond (flatCs (elemTs c)) (rdSl v (k (dflt c)) fun c' x => .opt (castI c' c x) k) (takeOb c v k)
  | _ => .fail
def appendM (c : CT) (d : Nat) (s x : TV) : M TV :=
  match s with
  | .one .nl => srcM c x fun y => .gd (Nat.ble (lenI c y) big) (newOb (nmT d 0) c y c1)
  | .one .z0 => srcM c x fun y => .gd (Nat.ble (lenI c y) big) (newOb (nmT d 0) c y c1)
  | .one (.ob n v vw) => srcM c x fun y => .ro n fun o => match o.dat with
    | some e => .gd (Nat.beq v o.ver) (.gd (vwOk e.c vw e.x) (.opt (castI e.c c (vwI e.c vw e.x)) fun x => .gd (Nat.ble (lenI c x + lenI c y) big)
        (.wo n ⟨o.ver + 1, 0, some ⟨c, appI c x y⟩⟩ (c1 (.ob n (o.ver + 1) none)))))
    | none => .fail
  | _ => .fail
def repI : (c : CT) → Nat → Interp c
  | .sl ts, n => List.replicate n (dfltL ts)
  | .tree fs, n => List.replicate n (toRT fs (dfltL (fs.snoc (.tree fs))))
  | c, _ => dflt c
def fillM (T : TypeId → Option TyI) (fs : List (Nat × TypeId)) : List Cell → List (Nat × TV) → M TV
  | cs, [] => .ret (.agg cs)
  | cs, (i, v) :: rest => match fs[i]? with
    | some (off, t) => match T t with
      | some ti => cellsM v fun vs => .gd (Nat.beq vs.length ti.size) (.gd (Nat.ble (off + vs.length) cs.length) (fillM T fs (cs.take off ++ (vs ++ cs.drop (off + vs.length))) rest))
      | none => .fail
    | none => .fail
def elemsM (c : CT) : Nat → List (Nat × TV) → (Interp c → M TV) → M TV
  | _, [], k => k (dflt c)
  | j, (i, v) :: rest, k => .gd (Nat.beq i j) (cellsM v fun vs => packL (elemTs c) vs fun e => elemsM c (j + 1) rest fun xs => k (consI c e xs))
def tuple1 (vs : List TV) : Option (List Cell) :=
  match vs with
  | [] => some []
  | .one .undef :: _ => none
  | .one c :: r => (tuple1 r).map (c :: ·)
  | _ => none
def opM (T : TypeId → Option TyI) (call : FuncId → List TV → Nat → M TV) (ρ : Operand → TV) (o : Oper) : M TV :=
  let d := dstN o.dst
  match o.op with
  | .move x | .assign x => .ret (ρ x)
  | .pick c a b => match ρ c with
    | .one (.b x) => .br x (.ret (ρ a)) (.ret (ρ b))
    | _ => .fail
  | .alloc t => match T t with
    | some i => .nb d i.zero (c1 (.pb d 0))
    | none => .fail
  | .box t x => match T t with
    | some i => cellsM (ρ x) fun cs => .gd (Nat.beq cs.length i.size) (.nb d cs (c1 (.pb d 0)))
    | none => .fail
  | .build t parts => match T t with
    | some ⟨.struct fs, _, _, z, _, _⟩ => fillM T fs z (parts.toList.map fun p => (p.1, ρ p.2))
    | _ => .fail
  | .buildSlice t len parts => match ctOf T t with
    | some c => .gd (Nat.beq len parts.toList.length && Nat.ble (len * (elemTs c).size) 16777216) (elemsM c 0 (parts.toList.map fun p => (p.1, ρ p.2)) fun xs => newOb (nmT d 0) c xs c1)
    | none => .fail
  | .load t a => match T t with
    | some i => M.tv1 (ρ a) (ldM (match i.u with | .struct _ => true | _ => false) i.size)
    | none => .fail
  | .store t a x => match T t with
    | some i => M.tv1 (ρ a) fun p => cellsM (ρ x) fun cs => stM i.size p cs
    | none => .fail
  | .nilCheck x => match ρ x with
    | .one (.pb b off) => c1 (.pb b off)
    | .one (.pe k v i off) => c1 (.pe k v i off)
    | .one (.pr ts e off) => c1 (.pr ts e off)
    | .one (.pg k v wv ts e off) => c1 (.pg k v wv ts e off)
    | .one (.fn f a b) => c1 (.fn f a b)
    | _ => .fail
  | .binOp op t x y _ => binM (T t) (isCo y) op (ρ x) (ρ y)
  | .unOp op _ x => match op, ρ x with
    | .not, .one (.b x) => c1 (.b (!x))
    | .neg, .one (.i k n) => c1 (.i k (k.wrap (0 - n)))
    | _, _ => .fail
  | .convert s t x => match uOf T s, uOf T t, ρ x with
    | some (.int _), some (.int k), .one (.i _ n) => c1 (.i k (k.wrap n))
    | some .str, some (.slice _), .one (.s x) => match ctOf T t with
      | some c => .opt (castI cB c x) fun y => .gd (Nat.ble x.length big) (newOb (nmT d 0) c y c1)
      | none => .fail
    | some (.slice _), some .str, .one v => .gd (okC (ctOf T s) cB) (rdSl v (c1 (.s [])) fun c x => .opt (castI c cB x) fun y => c1 (.s y))
    | some .str, some .str, .one (.s x) => c1 (.s x)
    | _, _, _ => .fail
  | .makeFunc (.func f) a b => match tuple1 (a.toList.map ρ), tuple1 (b.toList.map ρ) with
    | some xs, some ys => c1 (.fn f xs ys)
    | _, _ => .fail
  | .makeSlice t l c => match ctOf T t, ρ l, ρ c with
    | some ct, .one (.i .i64 n), .one (.i .i64 m) => .gd (decide (0 ≤ n ∧ n ≤ m ∧ m ≤ big)) (newOb (nmT d 0) ct (repI ct n.toNat) c1)
    | _, _, _ => .fail
  | .slice t x lo hi none => sliceM (T t) (ctOf T t) (ρ x) (lo.map ρ) (hi.map ρ)
  | .fieldAddr s x f => match T s with
    | some ⟨.struct fs, _, _, _, _, _⟩ => match fs[f]? with
      | some (off, _) => fieldAddrM off (ρ x)
      | none => .fail
    | _ => .fail
  | .field s x f => match T s, ρ x with
    | some ⟨.struct fs, _, _, _, _, _⟩, .agg cs => match fs[f]? with
      | some (off, t) => match T t with
        | some i => .gd (Nat.ble (off + i.size) cs.length) (.ret (mkTV (match i.u with | .struct _ => true | _ => false) (sub cs off i.size)))
        | none => .fail
      | none => .fail
    | _, _ => .fail
  | .indexAddr t x i => indexAddrM (ctOf T t) (ρ x) (ρ i)
  | .index t x i => indexM (T t) (ρ x) (ρ i)
  | .extract x i => match ρ x with
    | .tup vs => match vs[i]? with
      | some v => .ret v
      | none => .fail
    | _ => .fail
  | .call c => match c.callee with
    | .builtin .len => match c.args.toList, c.argTypes.toList with
      | [x], t :: _ => M.tv1 (ρ x) (lenM (T t))
      | _, _ => .fail
    | .builtin .append => match c.args.toList, c.argTypes.toList with
      | [s, x], [t, t2] => match ctOf T t with
        | some ct => .gd (uS (T t2) || uStr (T t2)) (appendM ct d (ρ s) (ρ x))
        | none => .fail
      | _, _ => .fail
    | .builtin .min => match c.args.toList with
      | [x, y] => match ρ x, ρ y with
        | .one (.i k a), .one (.i k' b) => .gd (decide (k = k')) (c1 (.i k (cond (decide (b < a)) b a)))
        | _, _ => .fail
      | _ => .fail
    | .builtin .max => match c.args.toList with
      | [x, y] => match ρ x, ρ y with
        | .one (.i k a), .one (.i k' b) => .gd (decide (k = k')) (c1 (.i k (cond (decide (a < b)) b a)))
        | _, _ => .fail
      | _ => .fail
    | .value (.func f) => call f (c.args.toList.map ρ) d
    | .value f => match ρ f with
      | .one (.fn g a b) => call g (a.map .one ++ (c.args.toList.map ρ ++ b.map .one)) d
      | _ => .fail
    | _ => .fail
  | _ => .fail
end Go.Ev
namespace Go.Ev
def constTV : Value → TV
  | .bool b => .one (.b b)
  | .int k n => cond (decide (k.min ≤ n ∧ n ≤ k.max)) (.one (.i k n)) (.one .undef)
  | .string s => cond (Nat.ble s.data.toList.length mx) (.one (.s s.data.toList)) (.one .undef)
  | .pointer none => .one .nilp
  | .slice none 0 0 => .one .nl
  | .nilFunc => .one .nilf
  | .nilIface => .one (.er false)
  | _ => .one .undef
def evalSt (st : St) : Operand → TV
  | .tmp t => st.tmps t
  | .const v => constTV v
  | .global _ => .one .undef
  | .func f => .one (.fn f [] [])
def know (st : St) (t : Nat) (x : Bool) : St := { st with tmps := upd st.tmps t (.one (.b x)) }
section
variable {R : Type}
def guardGo (all : Array Oper) (o : Oper) (st : St) (yes no : St → Option R) : Option R :=
  match o.guard with
  | none => yes st
  | some (j, want) => match (all[j]?).bind (·.dst) with
    | some t => match st.tmps t with
      | .one (.b x) => cond x (cond want (yes (know st t true)) (no (know st t true))) (cond want (no (know st t false)) (yes (know st t false)))
      | .tup [] => no st
      | _ => none
    | none => none
def regionGo (opf : (Operand → TV) → Oper → M TV) (all : Array Oper) : List Oper → St → List Log → (St → List Log → Option R) → Option R
  | [], st, ls, K => K st ls
  | o :: rest, st, ls, K => guardGo all o st
      (fun st => (opf (evalSt st) o).go st .none fun v st' l => regionGo opf all rest (st'.put o.dst v) (l :: ls) K)
      (fun st => regionGo opf all rest (st.put o.dst (.tup [])) (.none :: ls) K)
end
def disj (xs ys : List Nat) : Bool := xs.all fun x => !ys.elem x
def opTmps (o : Oper) (all : Array Oper) : List Nat :=
  (o.op.operands.toList.filterMap fun | .tmp t => some t | _ => none) ++
  (match o.guard with
   | some (g, _) => ((all[g]?).bind (·.dst)).toList
   | none => [])
def indep (all : Array Oper) (x y : Oper) (lx ly : Log) : Bool :=
  (match x.dst with | some d => !(opTmps y all).elem d && !(y.dst == some d) | none => true) &&
  (match y.dst with | some d => !(opTmps x all).elem d | none => true) &&
  disj lx.wr ly.rd && disj lx.wr ly.wr && disj ly.wr lx.rd
def befores : List Oper → List Nat → List Nat
  | [], _ => []
  | o :: rest, acc =>
    let m := o.after.toList.foldl (fun s e => cond (Region.binds .any e) (s ||| 2 ^ e.on ||| acc.getD e.on 0) s) 0
    m :: befores rest (acc ++ [m])
def edgesOk (i : Nat) (o : Oper) : Bool := o.after.toList.all fun e => !Region.binds .any e || Nat.blt e.on i
def pairsOk (all : Array Oper) (x : Oper) (lx : Log) (i : Nat) : List Oper → List Log → List Nat → Bool
  | o :: os, l :: ls, m :: ms => (m.testBit i || indep all x o lx l) && pairsOk all x lx i os ls ms
  | _, _, _ => true
def drawGo (all : Array Oper) : Nat → List Oper → List Log → List Nat → Bool
  | i, o :: os, l :: ls, _ :: ms => edgesOk i o && pairsOk all o l i os ls ms && drawGo all (i + 1) os ls ms
  | _, _, _, _ => true
def drawOk (ops : Array Oper) (logs : List Log) : Bool := drawGo ops 0 ops.toList logs (befores ops.toList [])
def joinT (ops : List Oper) : Option Nat :=
  cond (ops.any fun o => o.guard.isSome) ((ops.getLast?).bind (·.dst)) none
def roOk (st : St) (logs : List Log) : Bool :=
  logs.all fun l => l.wr.all fun n => cond (Nat.beq (n % 2) 0) (st.boxes (n / 2)).isNone (st.objs (n / 2)).dat.isNone
def wipe (st : St) : List Oper → St
  | [] => st
  | o :: rest => match o.dst with
    | some d => wipe { st with tmps := upd st.tmps d (.one .undef) } rest
    | none => wipe st rest
inductive CK where
  | undef
  | bool
  | int (k : IntKind)
  | str
  | er
  | sh (c : CT)
  | own (c : CT)
  | nl
  | al (m : Nat)
  | gs (m : Nat) (c : CT)
  | pb (b off : Nat)
  | nilp
  | nilf
  | fn (f : FuncId) (fst caps : List CK)
inductive TVK where
  | one (k : CK)
  | agg (ks : List CK)
  | tup (vs : List TVK)
instance : Inhabited TVK := ⟨.one .undef⟩
structure Gam where
  tmps : List (Nat × TVK)
  boxes : List (Nat × List CK)
@[reducible] def InterpA : List CT → Type
  | [] => Unit
  | [c] => Interp c
  | c :: d :: cs => Interp c × InterpA (d :: cs)
def typ : (cts : List CT) → List DV → Option (InterpA cts)
  | [], [] => some ()
  | [c], [d] => castI d.c c d.x
  | c :: c' :: cs, d :: ds => (castI d.c c d.x).bind fun x => (typ (c' :: cs) ds).bind fun y => some (x, y)
  | _, _ => none
def untyp : (cts : List CT) → InterpA cts → List DV
  | [], _ => []
  | [c], x => [⟨c, x⟩]
  | c :: d :: cs, x => ⟨c, x.1⟩ :: untyp (d :: cs) x.2
structure CS where
  dv : List DV
  used : List (Nat × Nat × Nat × Nat)
  bm : List (Nat × Nat)
  lend : Bool
  lent : List Nat
def CS.push (s : CS) (d : DV) : CS := { s with dv := d :: s.dv }
def look (m : Nat) : List (Nat × Nat) → Option Nat
  | [] => none
  | (a, b) :: r => cond (Nat.beq a m) (some b) (look m r)
def inVals (b : Nat) : List (Nat × Nat) → Bool
  | [] => false
  | (_, y) :: r => Nat.beq y b || inVals b r
def inUsed (m n v wv : Nat) : List (Nat × Nat × Nat × Nat) → Bool
  | [] => false
  | (a, b, c, d) :: r => (Nat.beq a m && (Nat.beq b n && (Nat.beq c v && Nat.beq d wv))) || inUsed m n v wv r
def inAl (m n v : Nat) : List (Nat × Nat × Nat × Nat) → Bool
  | [] => false
  | (a, b, c, _) :: r => (Nat.beq a m && (Nat.beq b n && Nat.beq c v)) || inAl m n v r
section
variable {β : Type}
mutual
def confC (nm : Nat) : CK → Cell → CS → (CS → M β) → M β
  | .undef, _, s, k => k s
  | .bool, .b x, s, k => k (s.push ⟨.bool, x⟩)
  | .int kk, .i kk' n, s, k => .gd (decide (kk = kk')) (k (s.push ⟨.int kk, intOfVal kk n⟩))
  | .str, .s x, s, k => k (s.push ⟨.str, x⟩)
  | .er, .er x, s, k => k (s.push ⟨.bool, x⟩)
  | .sh c, .ob n v vw, s, k => .gd s.lend (rdSl (.ob n v vw) .fail fun c' x => .opt (castI c' c x) fun y => k { s.push ⟨c, y⟩ with lent := n :: s.lent })
  | .sh c, .gs n v wv pl c' x, s, k => .gd s.lend (rdSl (.gs n v wv pl c' x) .fail fun c' x => .opt (castI c' c x) fun y => k { s.push ⟨c, y⟩ with lent := n :: s.lent })
  | .sh c, v, s, k => rdSl v (.gd (isSl c) (k (s.push ⟨c, dflt c⟩))) fun c' x => .opt (castI c' c x) fun y => k (s.push ⟨c, y⟩)
  | .own c, .nl, s, k => .gd (isSl c) (k (s.push ⟨c, dflt c⟩))
  | .own c, .z0, s, k => .gd (isSl c) (k (s.push ⟨c, dflt c⟩))
  | .own c, .ob n v vw, s, k => .ro n fun o => takeOb c (.ob n v vw) fun y => k { s.push ⟨c, y⟩ with used := cond vw.isNone ((nm, n, v, o.wv) :: s.used) s.used }
  | .own c, .gs n v wv pl c' x, s, k => takeOb c (.gs n v wv pl c' x) fun y => k (s.push ⟨c, y⟩)
  | .nl, .nl, s, k => k s
  | .al m, .ob n v none, s, k => .gd (inAl m n v s.used) (k s)
  | .gs m c, .gs n v wv _ c' x, s, k => .gd (inUsed m n v wv s.used) (.opt (castI c' c x) fun y => k (s.push ⟨c, y⟩))
  | .pb m off, .pb b off', s, k => .gd (Nat.beq off off') (match look m s.bm with
    | some b' => .gd (Nat.beq b b') (k s)
    | none => .gd (!inVals b s.bm) (k { s with bm := (m, b) :: s.bm }))
  | .nilp, .nilp, s, k => k s
  | .nilf, .nilf, s, k => k s
  | .fn f a b, .fn f' a' b', s, k => .gd (Nat.beq f f') (confCs (fun _ => 0) 0 a a' s fun s => confCs (fun _ => 0) 0 b b' s k)
  | _, _, _, _ => .fail
def confCs (nm : Nat → Nat) : Nat → List CK → List Cell → CS → (CS → M β) → M β
  | _, [], [], s, k => k s
  | j, c :: cs, v :: vs, s, k => confC (nm j) c v s fun s => confCs nm (j + 1) cs vs s k
  | _, _, _, _, _ => .fail
end
def confTVs (nm : Nat → Nat) : Nat → List TVK → List TV → CS → (CS → M β) → M β
  | _, [], [], s, k => k s
  | j, .one .undef :: cs, _ :: vs, s, k => confTVs nm (j + 1) cs vs s k
  | j, .one c :: cs, .one v :: vs, s, k => confC (nm j) c v s fun s => confTVs nm (j + 1) cs vs s k
  | j, .agg ks :: cs, .agg v :: vs, s, k => confCs nm j ks v s fun s => confTVs nm (j + ks.length) cs vs s k
  | _, _, _, _, _ => .fail
def confTV (nm : Nat → Nat) : TVK → TV → CS → (CS → M β) → M β
  | .one .undef, _, s, k => k s
  | .one c, .one v, s, k => confC (nm 0) c v s k
  | .agg cs, .agg vs, s, k => confCs nm 0 cs vs s k
  | .tup cs, .tup vs, s, k => confTVs nm 0 cs vs s k
  | _, _, _, _ => .fail
def confArgs : Nat → List TVK → List TV → CS → (CS → M β) → M β
  | _, [], [], s, k => k s
  | t, c :: cs, v :: vs, s, k => confTV (nmT t) c v s fun s => confArgs (t + 1) cs vs s k
  | _, _, _, _, _ => .fail
def confBoxes : List (Nat × List CK) → CS → (CS → M β) → M β
  | [], s, k => k s
  | (m, ks) :: rest, s, k => match look m s.bm with
    | some b => .rb b fun cs => confCs (nmB m) 0 ks cs s fun s => confBoxes rest s k
    | none => .fail
mutual
def unCK (nm : Nat) : CK → List DV → (Cell → List DV → M β) → M β
  | .undef, ds, k => k .undef ds
  | .bool, d :: ds, k => .opt (castI d.c .bool d.x) fun x => k (.b x) ds
  | .int kk, d :: ds, k => .opt (castI d.c (.int kk) d.x) fun x => k (.i kk (intVal kk x)) ds
  | .str, d :: ds, k => .opt (castI d.c .str d.x) fun x => k (.s x) ds
  | .er, d :: ds, k => .opt (castI d.c .bool d.x) fun x => k (.er x) ds
  | .sh c, d :: ds, k => .opt (castI d.c c d.x) fun x => k (.sh c x) ds
  | .own c, d :: ds, k => .opt (castI d.c c d.x) fun x => newOb nm c x fun v => k v ds
  | .nl, ds, k => k .nl ds
  | .al m, ds, k => .ro m fun o => .gd (o.dat.isSome && Nat.beq o.ver 1) (k (.ob m 1 none) ds)
  | .gs m c, d :: ds, k => .opt (castI d.c c d.x) fun x => .ro m fun o => .gd (o.dat.isSome && (Nat.beq o.ver 1 && Nat.beq o.wv 0)) (k (.gs m 1 0 none c x) ds)
  | .pb b off, ds, k => .rb b fun _ => k (.pb b off) ds
  | .nilp, ds, k => k .nilp ds
  | .nilf, ds, k => k .nilf ds
  | .fn f a b, ds, k => unCKs (fun _ => 0) 0 a ds fun xs ds => unCKs (fun _ => 0) 0 b ds fun ys ds => k (.fn f xs ys) ds
  | _, [], _ => .fail
def unCKs (nm : Nat → Nat) : Nat → List CK → List DV → (List Cell → List DV → M β) → M β
  | _, [], ds, k => k [] ds
  | j, c :: cs, ds, k => unCK (nm j) c ds fun v ds => unCKs nm (j + 1) cs ds fun vs ds => k (v :: vs) ds
end
def unTVs (nm : Nat → Nat) : Nat → List TVK → List DV → (List TV → List DV → M β) → M β
  | _, [], ds, k => k [] ds
  | j, .one c :: vs, ds, k => unCK (nm j) c ds fun v ds => unTVs nm (j + 1) vs ds fun r ds => k (.one v :: r) ds
  | j, .agg cs :: vs, ds, k => unCKs nm j cs ds fun v ds => unTVs nm (j + cs.length) vs ds fun r ds => k (.agg v :: r) ds
  | _, .tup _ :: _, _, _ => .fail
def unTV (nm : Nat → Nat) : TVK → List DV → (TV → List DV → M β) → M β
  | .one c, ds, k => unCK (nm 0) c ds fun v ds => k (.one v) ds
  | .agg cs, ds, k => unCKs nm 0 cs ds fun v ds => k (.agg v) ds
  | .tup vs, ds, k => unTVs nm 0 vs ds fun r ds => k (.tup r) ds
def unBoxes : List (Nat × List CK) → List (List CK) → List (Nat × Nat) → List DV → M β → M β
  | [], [], _, _, k => k
  | (m, _) :: bx, ks :: rest, bm, ds, k => match look m bm with
    | some b => unCKs (nmB b) 0 ks ds fun cs ds => .wb b cs (unBoxes bx rest bm ds k)
    | none => .fail
  | _, _, _, _, _ => .fail
end
structure Entry where
  f : FuncId
  fn : Func
  ins : List TVK
  bx : List (Nat × List CK)
  outs : TVK
  bxo : List (List CK)
  loops : List (Nat × Gam × Gam × List CT)
  noJoin : List Nat
  outC : List CT
  prim : Option (List DV → Option (InterpA outC))
mutual
def hasSh : CK → Bool
  | .sh _ => true
  | .fn _ a b => hasShs a || hasShs b
  | _ => false
def hasShs : List CK → Bool
  | [] => false
  | c :: cs => hasSh c || hasShs cs
end
mutual
def hasShV : TVK → Bool
  | .one c => hasSh c
  | .agg cs => hasShs cs
  | .tup vs => hasShVs vs
def hasShVs : List TVK → Bool
  | [] => false
  | c :: cs => hasShV c || hasShVs cs
end
def hasShB : List (List CK) → Bool
  | [] => false
  | ks :: r => hasShs ks || hasShB r
mutual
def fitC : CK → Cell → Bool
  | .undef, _ => true
  | .bool, .b _ => true
  | .int k, .i k' _ => decide (k = k')
  | .str, .s _ => true
  | .er, .er _ => true
  | .sh _, .sh _ _ => true
  | .sh _, .shn _ _ => true
  | .sh _, .nl => true
  | .sh _, .z0 => true
  | .sh _, .ob _ _ _ => true
  | .sh _, .gs _ _ _ _ _ _ => true
  | .own _, .ob _ _ _ => true
  | .own _, .nl => true
  | .own _, .z0 => true
  | .nl, .nl => true
  | .pb _ off, .pb _ off' => Nat.beq off off'
  | .nilp, .nilp => true
  | .nilf, .nilf => true
  | .fn f a b, .fn f' a' b' => Nat.beq f f' && (fitCs a a' && fitCs b b')
  | _, _ => false
def fitCs : List CK → List Cell → Bool
  | [], [] => true
  | c :: cs, v :: vs => fitC c v && fitCs cs vs
  | _, _ => false
end
def fitV : TVK → TV → Bool
  | .one .undef, _ => true
  | .one c, .one v => fitC c v
  | .agg cs, .agg vs => fitCs cs vs
  | _, _ => false
def fitVs : List TVK → List TV → Bool
  | [], [] => true
  | c :: cs, v :: vs => fitV c v && fitVs cs vs
  | _, _ => false
def pick1 (tab : Nat → Entry) (args : List TV) : List Nat → Option Nat
  | [] => none
  | e :: es => cond (fitVs (tab e).ins args) (some e) (pick1 tab args es)
def alive {α : Type} : List Nat → M α → M α
  | [], k => k
  | n :: r, k => .ro n fun o => .gd o.dat.isSome (alive r k)
def revApp : List DV → List DV → List DV
  | [], ys => ys
  | x :: xs, ys => revApp xs (x :: ys)
def callM (tab : Nat → Entry) (cands : FuncId → List Nat) (D : (e : Nat) → List DV → Option (InterpA (tab e).outC)) (f : FuncId) (args : List TV) (d : Nat) : M TV :=
  match pick1 tab args (cands f) with
  | none => .fail
  | some e =>
    .gd (Nat.beq (tab e).f f) <|
    confArgs 0 (tab e).ins args ⟨[], [], [], true, []⟩ fun s =>
    confBoxes (tab e).bx { s with dv := [] } fun s' =>
    .gd (s'.lent.isEmpty || !(hasShV (tab e).outs || hasShB (tab e).bxo)) <|
    alive s'.lent <|
    .opt (D e (revApp s'.dv (revApp s.dv []))) fun r =>
    unTV (nmT d) (tab e).outs (untyp (tab e).outC r) fun v ds =>
    unBoxes (tab e).bx (tab e).bxo s'.bm ds (.ret v)
def st0 : St := ⟨fun _ => .one .undef, fun _ => none, fun _ => ⟨0, 0, none⟩⟩
def idMap : List (Nat × List CK) → List (Nat × Nat)
  | [] => []
  | (b, _) :: r => (b, b) :: idMap r
section
variable {R : Type}
def confTmps {β : Type} (tmps : Nat → TV) : List (Nat × TVK) → CS → (CS → M β) → M β
  | [], s, k => k s
  | (t, c) :: rest, s, k => confTV (nmT t) c (tmps t) s fun s => confTmps tmps rest s k
def confSt {β : Type} (g : Gam) (tmps : Nat → TV) (k : List DV → M β) : M β :=
  confBoxes g.boxes ⟨[], [], idMap g.boxes, false, []⟩ fun s => confTmps tmps g.tmps s fun s => k (revApp s.dv [])
def unTmps {β : Type} : List (Nat × TVK) → (Nat → TV) → List DV → ((Nat → TV) → M β) → M β
  | [], f, _, k => k f
  | (t, c) :: rest, f, ds, k => unTV (nmT t) c ds fun v ds => unTmps rest (upd f t v) ds k
def unNew {β : Type} : List (Nat × List CK) → List DV → (List DV → M β) → M β
  | [], ds, k => k ds
  | (b, ks) :: rest, ds, k => unCKs (nmB b) 0 ks ds fun cs ds => .nb b cs (unNew rest ds k)
def unSt {β : Type} (g : Gam) (ds : List DV) (k : (Nat → TV) → M β) : M β :=
  unNew g.boxes ds fun ds => unTmps g.tmps (fun _ => .one .undef) ds k
def confGo (g : Gam) (st : St) (K : List DV → Option R) : Option R :=
  (confSt g st.tmps fun ds => .ret ds).go st .none fun ds _ _ => K ds
def unGo (g : Gam) (ds : List DV) (K : St → Option R) : Option R :=
  (unSt g ds fun f => .ret f).go st0 .none fun f st _ => K { st with tmps := f }
end
structure Ks (F R : Type) where
  nrm : St → Option R
  exit : Nat → St → Option R
  ret : St → Option R
  fin : F → Option R
def iter {X : Type} (id : Nat) (f : (List DV → Option X) → List DV → Option X) : Nat → List DV → Option X
  | 0 => fun _ => none
  | n + 1 => fun ds => f (iter id f n) ds
def sumE {X Y R : Type} (r : Sum X Y) (f : X → Option R) (g : Y → Option R) : Option R :=
  match r with
  | .inl x => f x
  | .inr y => g y
def lookG (id : Nat) : List (Nat × Gam × Gam × List CT) → Option (Gam × Gam × List CT)
  | [] => none
  | (a, g) :: r => cond (Nat.beq a id) (some g) (lookG id r)
section
variable (T : TypeId → Option TyI) (call : FuncId → List TV → Nat → M TV) (e : Entry) (n : Nat)
def resM : List ResultVar → St → (List TV → M (List DV)) → M (List DV)
  | [], _, k => k []
  | .tmp t :: r, st, k => resM r st fun vs => k (st.tmps t :: vs)
  | .cell a ty :: r, st, k => match T ty with
    | some i => match st.tmps a with
      | .one (.pb b off) => .rb b fun cs => .gd (Nat.ble (off + i.size) cs.length) (resM r st fun vs => k (mkTV (match i.u with | .struct _ => true | _ => false) (sub cs off i.size) :: vs))
      | _ => .fail
    | none => .fail
def outBoxes : List (Nat × List CK) → List (List CK) → CS → (CS → M (List DV)) → M (List DV)
  | [], [], s, k => k s
  | (m, _) :: bx, ks :: rest, s, k => .rb m fun cs => confCs (nmB m) 0 ks cs s fun s => outBoxes bx rest s k
  | _, _, _, _ => .fail
def tvOf (vs : List TV) : TV :=
  match vs with
  | [v] => v
  | vs => .tup vs
def finM (st : St) : M (List DV) :=
  resM T e.fn.results.toList st fun vs =>
  confTV (nmT 9000) e.outs (tvOf vs) ⟨[], [], [], false, []⟩ fun s =>
  outBoxes e.bx e.bxo s fun s => .ret (revApp s.dv [])
def finGo {R : Type} (ks : Ks (InterpA e.outC) R) (st : St) : Option R :=
  (finM T e st).go st .none fun ds _ _ => (typ e.outC ds).bind ks.fin
def codeGo : Code → {R : Type} → St → Ks (InterpA e.outC) R → Option R
  | .skip, _, st, ks => ks.nrm st
  | .region id ops draw, _, st, ks =>
    match cond (e.noJoin.elem id) none (joinT ops.toList) with
    | some t => (regionGo (opM T call) ops ops.toList st [] fun st' ls =>
        cond (roOk st ls && (!draw || drawOk ops ls.reverse)) (match st'.tmps t with | .one (.b x) => some x | _ => none) none).bind fun x =>
        ks.nrm (know (wipe st ops.toList) t x)
    | none => regionGo (opM T call) ops ops.toList st [] fun st' ls => cond (!draw || drawOk ops ls.reverse) (ks.nrm st') none
  | .seq a b, _, st, ks => codeGo a st { ks with nrm := fun st => codeGo b st ks }
  | .cond c a b, _, st, ks => match c with
    | .tmp t => match st.tmps t with
      | .one (.b x) => cond x (codeGo a (know st t true) ks) (codeGo b (know st t false) ks)
      | _ => none
    | _ => none
  | .block id (.loop body), _, st, ks => match lookG id e.loops with
    | some (g, h, hc) => confGo g st fun ds =>
      (iter (X := Sum (InterpA hc) (InterpA e.outC)) id (fun self ds => unGo g ds fun st => codeGo body st
        ⟨fun st => confGo g st self, fun i st => cond (Nat.beq i id) (confGo h st fun ds => (typ hc ds).bind fun x => some (.inl x)) none,
         fun st => finGo T e ⟨fun _ => none, fun _ _ => none, fun _ => none, fun r => some (.inr r)⟩ st, fun r => some (.inr r)⟩) n ds).bind fun r =>
      sumE r (fun x => unGo h (untyp hc x) ks.nrm) ks.fin
    | none => none
  | .block id c, _, st, ks => codeGo c st { ks with exit := fun i st => cond (Nat.beq i id) (ks.nrm st) (ks.exit i st) }
  | .exit id, _, st, ks => ks.exit id st
  | .ret, _, st, ks => ks.ret st
  | _, _, _, _ => none
def ksTop : Ks (InterpA e.outC) (InterpA e.outC) where
  nrm := fun st => finGo T e ⟨fun _ => none, fun _ _ => none, fun _ => none, some⟩ st
  exit := fun _ _ => none
  ret := fun st => finGo T e ⟨fun _ => none, fun _ _ => none, fun _ => none, some⟩ st
  fin := some
def gamOf : Nat → List TVK → List (Nat × TVK)
  | _, [] => []
  | t, v :: vs => (t, v) :: gamOf (t + 1) vs
def fnGo (ds : List DV) : Option (InterpA e.outC) :=
  match e.fn.body with
  | some c => unGo ⟨gamOf 0 e.ins, e.bx⟩ ds fun st => codeGo T call e n c st (ksTop T e)
  | none => none
end
def D (T : TypeId → Option TyI) (tab : Nat → Entry) (cands : FuncId → List Nat) : Nat → (e : Nat) → List DV → Option (InterpA (tab e).outC)
  | 0, _, _ => none
  | n + 1, e, ds => match (tab e).prim with
    | some p => p ds
    | none => fnGo T (callM tab cands (D T tab cands n)) (tab e) n ds
end Go.Ev
namespace Go.Ev
structure Asg where
  bx : Nat → Nat
  ob : Nat → Value
  fp : Nat → List Nat
def PlaceAt (H : Heap) (fp : List Nat) (hd : Value) (d : DV) (i j : Nat) (c : CT) (x : Interp c) (v : Value) : Prop :=
  ∃ e g len cap cur ty frz, getI d.c d.x i = some e ∧ (encL (elemTs d.c) e)[j]? = some (enc c x) ∧ hd = .slice (some ⟨g, 0, none⟩) len cap ∧ g ∈ fp ∧ H g = some (.cells cur ty frz) ∧
    cur.toList[i * (elemTs d.c).size + j]? = some v
def PtrAt (H : Heap) (R : Nat → Prop) (ts : CTs) (x : InterpL ts) (off : Nat) (v : Value) : Prop :=
  ∃ g o cur ty frz, v = .pointer (some ⟨g, o + off, none⟩) ∧ R g ∧ H g = some (.cells cur ty frz) ∧ o + ts.size ≤ cur.size ∧ RelDs H R false (encL ts x) ((cur.toList.drop o).take ts.size) []
mutual
def RelC (H : Heap) (R : Nat → Prop) (st : St) (θ : Asg) : Cell → Value → Prop
  | .undef, _ => True
  | .b x, v => v = .bool x
  | .i k n, v => v = .int k n ∧ (k.min ≤ n ∧ n ≤ k.max)
  | .s x, v => v = .string ⟨x.toArray⟩ ∧ x.length ≤ maxLen
  | .sh c x, v => isSl c = true ∧ RelD H R false (enc c x) v []
  | .shn c x, v => isSl c = true ∧ RelD H R false (enc c x) v [] ∧ ∃ a l m, v = .slice (some a) l m
  | .nl, v => v = .slice none 0 0
  | .z0, v => ∃ a, v = .slice a 0 0
  | .ob k ver vw, v => ver ≤ (st.objs k).ver ∧ (ver = (st.objs k).ver → (st.objs k).dat.isSome = true →
      match vw with
      | none => v = θ.ob k
      | some n => ∃ a len cap, θ.ob k = .slice a len cap ∧ v = .slice a n cap)
  | .gs k ver wv pl c x, v => isSl c = true ∧ ver ≤ (st.objs k).ver ∧ (ver = (st.objs k).ver → wv ≤ (st.objs k).wv ∧ (wv = (st.objs k).wv → ∀ d, (st.objs k).dat = some d →
      RelD H (fun b => b ∈ θ.fp k) false (enc c x) v [] ∧ ∀ i j, pl = some (i, j) → PlaceAt H (θ.fp k) (θ.ob k) d i j c x v))
  | .nilp, v => v = .pointer none
  | .pb b off, v => (st.boxes b).isSome = true ∧ v = .pointer (some ⟨θ.bx b, off, none⟩)
  | .pe k ver i off, v => (∃ g o, v = .pointer (some ⟨g, o, none⟩)) ∧ ver ≤ (st.objs k).ver ∧ (ver = (st.objs k).ver → ∀ d, (st.objs k).dat = some d →
      ∃ g len cap, θ.ob k = .slice (some ⟨g, 0, none⟩) len cap ∧ i < lenI d.c d.x ∧ v = .pointer (some ⟨g, i * (elemTs d.c).size + off, none⟩))
  | .pr ts x off, v => PtrAt H R ts x off v
  | .pg k ver wv ts x off, v => (∃ g o, v = .pointer (some ⟨g, o, none⟩)) ∧ ver ≤ (st.objs k).ver ∧ (ver = (st.objs k).ver → wv ≤ (st.objs k).wv ∧ (wv = (st.objs k).wv → (st.objs k).dat.isSome = true → PtrAt H (fun b => b ∈ θ.fp k) ts x off v))
  | .nilf, v => v = .nilFunc
  | .fn f a b, v => ∃ va vb, v = .func (.func f) va vb ∧ RelCs H R st θ a va.toList ∧ RelCs H R st θ b vb.toList
  | .er x, v => (x = false ∧ v = .nilIface) ∨ (x = true ∧ ∃ t u, v = .iface t u)
def RelCs (H : Heap) (R : Nat → Prop) (st : St) (θ : Asg) : List Cell → List Value → Prop
  | [], vs => vs = []
  | c :: cs, vs => ∃ v vs', vs = v :: vs' ∧ (RelC H R st θ c v ∧ one1 v = true) ∧ RelCs H R st θ cs vs'
end
mutual
def RelV (H : Heap) (R : Nat → Prop) (st : St) (θ : Asg) : TV → Value → Prop
  | .one c, v => RelC H R st θ c v ∧ (c = .undef ∨ one1 v = true)
  | .agg cs, v => ∃ arr, v = .agg arr ∧ RelCs H R st θ cs arr.toList
  | .tup vs, v => ∃ arr, v = .tuple arr ∧ RelVs H R st θ vs arr.toList
def RelVs (H : Heap) (R : Nat → Prop) (st : St) (θ : Asg) : List TV → List Value → Prop
  | [], vs => vs = []
  | c :: cs, vs => ∃ v vs', vs = v :: vs' ∧ RelV H R st θ c v ∧ RelVs H R st θ cs vs'
end
structure Step (R : Nat → Prop) (st : St) (θ : Asg) (H : Heap) (st' : St) (θ' : Asg) (H' : Heap) : Prop where
  rd : ∀ b, R b → H' b = H b
  bx : ∀ b, (st.boxes b).isSome = true → (st'.boxes b).isSome = true ∧ θ'.bx b = θ.bx b
  ob : ∀ k, (st'.objs k = st.objs k ∧ ((st.objs k).dat.isSome = true → θ'.ob k = θ.ob k ∧ θ'.fp k = θ.fp k ∧ ∀ g, g ∈ θ.fp k → H' g = H g)) ∨
    (st.objs k).ver < (st'.objs k).ver ∨
    ((st'.objs k).ver = (st.objs k).ver ∧ (st.objs k).wv < (st'.objs k).wv ∧ (st.objs k).dat.isSome = true ∧
      ∀ d', (st'.objs k).dat = some d' → θ'.ob k = θ.ob k ∧ ∃ d, (st.objs k).dat = some d ∧ d'.c = d.c ∧ lenI d'.c d'.x = lenI d.c d.x)
theorem Step.refl (R : Nat → Prop) (st : St) (θ : Asg) (H : Heap) : Step R st θ H st θ H :=
  ⟨fun _ _ => rfl, fun _ h => ⟨h, rfl⟩, fun _ => .inl ⟨rfl, fun _ => ⟨rfl, rfl, fun _ _ => rfl⟩⟩⟩
theorem Step.trans {R : Nat → Prop} {st st' st'' : St} {θ θ' θ'' : Asg} {H H' H'' : Heap} (s : Step R st θ H st' θ' H') (t : Step R st' θ' H' st'' θ'' H'') : Step R st θ H st'' θ'' H'' := by
  refine ⟨fun b hb => (t.rd b hb).trans (s.rd b hb), fun b hb => ?_, fun k => ?_⟩
  · obtain ⟨h1, h2⟩ := s.bx b hb
    obtain ⟨h3, h4⟩ := t.bx b h1
    exact ⟨h3, h4.trans h2⟩
  · rcases s.ob k with ⟨e, ho⟩ | hv | ⟨hv, hw, hd, hl⟩ <;> rcases t.ob k with ⟨e', ho'⟩ | hv' | ⟨hv', hw', hd', hl'⟩
    · refine .inl ⟨e'.trans e, fun hk => ?_⟩
      obtain ⟨a1, a2, a3⟩ := ho hk
      obtain ⟨b1, b2, b3⟩ := ho' (by rw [e]; exact hk)
      exact ⟨b1.trans a1, b2.trans a2, fun g hg => (b3 g (by rw [a2]; exact hg)).trans (a3 g hg)⟩
    · exact .inr (.inl (by rw [e] at hv'; exact hv'))
    · rw [e] at hv' hw' hd'
      refine .inr (.inr ⟨hv', hw', hd', fun d' h => ?_⟩)
      obtain ⟨k1, d, k2, k3⟩ := hl' d' h
      rw [e] at k2
      exact ⟨k1.trans (ho hd').1, d, k2, k3⟩
    · exact .inr (.inl (by rw [e']; exact hv))
    · exact .inr (.inl (by omega))
    · exact .inr (.inl (by omega))
    · refine .inr (.inr ⟨by rw [e']; exact hv, by rw [e']; exact hw, hd, fun d' h => ?_⟩)
      rw [e'] at h
      obtain ⟨k1, d, k2, k3⟩ := hl d' h
      exact ⟨(ho' (by simp [h])).1.trans k1, d, k2, k3⟩
    · exact .inr (.inl (by omega))
    · refine .inr (.inr ⟨by omega, by omega, hd, fun d' h => ?_⟩)
      obtain ⟨k1, d1, k2, k3, k4⟩ := hl' d' h
      obtain ⟨j1, d, j2, j3, j4⟩ := hl d1 k2
      exact ⟨k1.trans j1, d, j2, k3.trans j3, k4.trans j4⟩
section
variable {R : Nat → Prop} {st st' : St} {θ θ' : Asg} {H H' : Heap}
theorem PtrAt.frame {R R' : Nat → Prop} {ts : CTs} {x : InterpL ts} {off : Nat} {v : Value} (h : PtrAt H R ts x off v) (hf : ∀ b, R b → H' b = H b) (hR : ∀ b, R b → R' b) : PtrAt H' R' ts x off v := by
  obtain ⟨g, o, cur, ty, frz, h1, h2, h3, h4, h5⟩ := h
  exact ⟨g, o, cur, ty, frz, h1, hR g h2, (hf g h2).trans h3, h4, h5.frame (fun b hb => hf b (hb.resolve_left (by simp))) hR⟩
mutual
theorem RelC.step (s : Step R st θ H st' θ' H') : ∀ (c : Cell) (v : Value), RelC H R st θ c v → RelC H' R st' θ' c v
  | .undef, _, _ => trivial
  | .b _, _, h => by simpa only [RelC] using h
  | .i _ _, _, h => by simpa only [RelC] using h
  | .s _, _, h => by simpa only [RelC] using h
  | .sh _ _, _, h => by
    simp only [RelC] at h ⊢
    exact ⟨h.1, h.2.frame (fun b hb => s.rd b (hb.resolve_left (by simp))) (fun _ h => h)⟩
  | .shn _ _, _, h => by
    simp only [RelC] at h ⊢
    exact ⟨h.1, h.2.1.frame (fun b hb => s.rd b (hb.resolve_left (by simp))) (fun _ h => h), h.2.2⟩
  | .nl, _, h => by simpa only [RelC] using h
  | .z0, _, h => by simpa only [RelC] using h
  | .ob k ver vw, v, h => by
    simp only [RelC] at h ⊢
    obtain ⟨h1, h2⟩ := h
    rcases s.ob k with ⟨e, ho⟩ | hv | ⟨hv, -, hd, hl⟩
    · rw [e]
      refine ⟨h1, fun a b => ?_⟩
      rw [(ho b).1]
      exact h2 a b
    · exact ⟨by omega, fun a => by omega⟩
    · rw [hv]
      refine ⟨h1, fun a b => ?_⟩
      obtain ⟨d', hd'⟩ := Option.isSome_iff_exists.1 b
      rw [(hl d' hd').1]
      exact h2 a hd
  | .gs k ver wv pl c x, v, h => by
    simp only [RelC] at h ⊢
    obtain ⟨h0, h1, h2⟩ := h
    rcases s.ob k with ⟨e, ho⟩ | hv | ⟨hv, hw, hd, hl⟩
    · rw [e]
      refine ⟨h0, h1, fun a => ⟨(h2 a).1, fun b d hd => ?_⟩⟩
      obtain ⟨g1, g2, g3⟩ := ho (by simp [hd])
      obtain ⟨q1, q2⟩ := (h2 a).2 b d hd
      rw [g2, g1]
      refine ⟨q1.frame (fun b hb => g3 b (hb.resolve_left (by simp))) (fun _ h => h), fun i j hij => ?_⟩
      obtain ⟨e1, g, len, cap, cur, ty, frz, k1, k2, k3, kg, k4, k5⟩ := q2 i j hij
      exact ⟨e1, g, len, cap, cur, ty, frz, k1, k2, k3, kg, (g3 g kg).trans k4, k5⟩
    · exact ⟨h0, by omega, fun a => by omega⟩
    · rw [hv]
      exact ⟨h0, h1, fun a => ⟨by have := (h2 a).1; omega, fun b => by have := (h2 a).1; omega⟩⟩
  | .nilp, _, h => by simpa only [RelC] using h
  | .pb b off, v, h => by
    simp only [RelC] at h ⊢
    obtain ⟨h1, h2⟩ := h
    obtain ⟨g1, g2⟩ := s.bx b h1
    exact ⟨g1, by rw [g2]; exact h2⟩
  | .pe k ver i off, v, h => by
    simp only [RelC] at h ⊢
    obtain ⟨h0, h1, h2⟩ := h
    rcases s.ob k with ⟨e, ho⟩ | hv | ⟨hv, -, hd, hl⟩
    · rw [e]
      refine ⟨h0, h1, fun a d hd => ?_⟩
      rw [(ho (by simp [hd])).1]
      exact h2 a d hd
    · exact ⟨h0, by omega, fun a => by omega⟩
    · rw [hv]
      refine ⟨h0, h1, fun a d' hd' => ?_⟩
      obtain ⟨ho, d, hd, hc, hlen⟩ := hl d' hd'
      rw [ho]
      obtain ⟨g, len, cap, k1, k2, k3⟩ := h2 a d hd
      exact ⟨g, len, cap, k1, by omega, by rw [hc]; exact k3⟩
  | .pr ts x off, v, h => by
    simp only [RelC] at h ⊢
    exact h.frame s.rd (fun _ h => h)
  | .pg k ver wv ts x off, v, h => by
    simp only [RelC] at h ⊢
    obtain ⟨h0, h1, h2⟩ := h
    rcases s.ob k with ⟨e, ho⟩ | hv | ⟨hv, hw, hd, hl⟩
    · rw [e]
      refine ⟨h0, h1, fun a => ⟨(h2 a).1, fun b hd => ?_⟩⟩
      obtain ⟨g1, g2, g3⟩ := ho hd
      rw [g2]
      exact ((h2 a).2 b hd).frame g3 (fun _ h => h)
    · exact ⟨h0, by omega, fun a => by omega⟩
    · rw [hv]
      exact ⟨h0, h1, fun a => ⟨by have := (h2 a).1; omega, fun b => by have := (h2 a).1; omega⟩⟩
  | .nilf, _, h => by simpa only [RelC] using h
  | .fn f a b, v, h => by
    simp only [RelC] at h ⊢
    obtain ⟨va, vb, rfl, h1, h2⟩ := h
    exact ⟨va, vb, rfl, RelCs.step s a _ h1, RelCs.step s b _ h2⟩
  | .er _, _, h => by simpa only [RelC] using h
theorem RelCs.step (s : Step R st θ H st' θ' H') : ∀ (cs : List Cell) (vs : List Value), RelCs H R st θ cs vs → RelCs H' R st' θ' cs vs
  | [], _, h => by simpa only [RelCs] using h
  | c :: cs, vs, h => by
    simp only [RelCs] at h ⊢
    obtain ⟨v, vs', rfl, h1, h2⟩ := h
    exact ⟨v, vs', rfl, ⟨RelC.step s c v h1.1, h1.2⟩, RelCs.step s cs vs' h2⟩
end
mutual
theorem RelV.step (s : Step R st θ H st' θ' H') : ∀ (c : TV) (v : Value), RelV H R st θ c v → RelV H' R st' θ' c v
  | .one c, v, h => by
    simp only [RelV] at h ⊢
    exact ⟨RelC.step s c v h.1, h.2⟩
  | .agg cs, v, h => by
    simp only [RelV] at h ⊢
    obtain ⟨arr, rfl, h⟩ := h
    exact ⟨arr, rfl, RelCs.step s _ _ h⟩
  | .tup vs, v, h => by
    simp only [RelV] at h ⊢
    obtain ⟨arr, rfl, h⟩ := h
    exact ⟨arr, rfl, RelVs.step s _ _ h⟩
theorem RelVs.step (s : Step R st θ H st' θ' H') : ∀ (cs : List TV) (vs : List Value), RelVs H R st θ cs vs → RelVs H' R st' θ' cs vs
  | [], _, h => by simpa only [RelVs] using h
  | c :: cs, vs, h => by
    simp only [RelVs] at h ⊢
    obtain ⟨v, vs', rfl, h1, h2⟩ := h
    exact ⟨v, vs', rfl, RelV.step s c v h1, RelVs.step s cs vs' h2⟩
end
end
theorem RelCs.length {R : Nat → Prop} {st : St} {θ : Asg} {H : Heap} : ∀ {cs : List Cell} {vs : List Value}, RelCs H R st θ cs vs → cs.length = vs.length
  | [], vs, h => by simp only [RelCs] at h; simp [h]
  | c :: cs, vs, h => by
    simp only [RelCs] at h
    obtain ⟨v, vs', rfl, -, h2⟩ := h
    simp [RelCs.length h2]
end Go.Ev
namespace Go.Ev
def hp (w : World) : Heap := fun b => w.heap[b]?
theorem hp_push (w : World) (o : Obj) {g : Nat} (h : g < w.heap.size) : hp (w.alloc o) g = hp w g := by
  show (w.heap.push o)[g]? = w.heap[g]?
  rw [Array.getElem?_push, if_neg (by omega)]
def Owned (st : St) (θ : Asg) (g : Nat) : Prop := (∃ b, (st.boxes b).isSome = true ∧ θ.bx b = g) ∨ ∃ k, (st.objs k).dat.isSome = true ∧ g ∈ θ.fp k
structure Inv (w0 : World) (F R : Nat → Prop) (st : St) (θ : Asg) (w : World) : Prop where
  size : w0.heap.size ≤ w.heap.size
  same : ∀ b, b < w0.heap.size → ¬ F b → hp w b = hp w0 b
  os : w.os = w0.os
  tape : w.tape = w0.tape
  out : w.output = w0.output
  rd : ∀ b, R b → b < w0.heap.size ∧ ¬ F b
  boxes : ∀ b cs, st.boxes b = some cs → ∃ arr ty frz, hp w (θ.bx b) = some (.cells arr ty frz) ∧ unfz arr.size frz ∧ RelCs (hp w) R st θ cs arr.toList
  objs : ∀ k d, (st.objs k).dat = some d → isSl d.c = true ∧ RelD (hp w) R true (enc d.c d.x) (θ.ob k) (θ.fp k) ∧ (θ.fp k).Nodup
  bb : ∀ b b', (st.boxes b).isSome = true → (st.boxes b').isSome = true → θ.bx b = θ.bx b' → b = b'
  bo : ∀ b k, (st.boxes b).isSome = true → (st.objs k).dat.isSome = true → θ.bx b ∉ θ.fp k
  oo : ∀ k k' g, (st.objs k).dat.isSome = true → (st.objs k').dat.isSome = true → g ∈ θ.fp k → g ∈ θ.fp k' → k = k'
  own : ∀ g, Owned st θ g → (F g ∨ w0.heap.size ≤ g)
variable {w0 w w' : World} {F R : Nat → Prop} {st st' : St} {θ θ' : Asg}
theorem Inv.notR (h : Inv w0 F R st θ w) {g : Nat} (hg : Owned st θ g) : ¬ R g := by
  intro hR
  have := h.rd g hR
  rcases h.own g hg with hf | hs
  · exact this.2 hf
  · omega
theorem RelD.fp_lt {H : Heap} {R : Nat → Prop} {n : Nat} (hn : ∀ b o, H b = some o → b < n) {own : Bool} {d : Dat} {v : Value} {fp : List Nat} (h : RelD H R own d v fp) : ∀ g ∈ fp, g < n := by
  revert h
  refine Dat.rec (motive_1 := fun d => ∀ (v : Value) (fp : List Nat), RelD H R own d v fp → ∀ g ∈ fp, g < n)
    (motive_2 := fun ds => ∀ (vs : List Value) (fp : List Nat), RelDs H R own ds vs fp → ∀ g ∈ fp, g < n) ?_ ?_ ?_ ?_ ?_ ?_ d v fp
  · intro x v fp h g hg; simp only [RelD] at h; simp [h.2] at hg
  · intro k m v fp h g hg; simp only [RelD] at h; simp [h.2.2] at hg
  · intro x v fp h g hg; simp only [RelD] at h; simp [h.2.2] at hg
  · intro sz cs ih v fp h g hg
    simp only [RelD] at h
    obtain ⟨a, len, cap, -, -, -, -, -, h⟩ := h
    rcases h with ⟨-, ⟨-, rfl⟩ | ⟨g', cur, ty, frz, fps, -, h1, -, -, rfl, h2⟩⟩ | ⟨-, rfl, -⟩
    · simp at hg
    · rcases List.mem_cons.1 hg with rfl | hg
      · exact hn _ _ h1
      · exact ih _ _ h2 g hg
    · simp at hg
  · intro vs fp h g hg; simp only [RelDs] at h; simp [h.2] at hg
  · intro d ds ih1 ih2 vs fp h g hg
    simp only [RelDs] at h
    obtain ⟨v, vs', f1, f2, -, rfl, h1, h2⟩ := h
    rcases List.mem_append.1 hg with hg | hg
    · exact ih1 _ _ h1 g hg
    · exact ih2 _ _ h2 g hg
theorem RelDs.fp_lt {H : Heap} {R : Nat → Prop} {n : Nat} (hn : ∀ b o, H b = some o → b < n) {own : Bool} : ∀ {ds : List Dat} {vs : List Value} {fp : List Nat}, RelDs H R own ds vs fp → ∀ g ∈ fp, g < n
  | [], vs, fp, h, g, hg => by simp only [RelDs] at h; simp [h.2] at hg
  | d :: ds, vs, fp, h, g, hg => by
    simp only [RelDs] at h
    obtain ⟨v, vs', f1, f2, -, rfl, h1, h2⟩ := h
    rcases List.mem_append.1 hg with hg | hg
    · exact h1.fp_lt hn g hg
    · exact RelDs.fp_lt hn h2 g hg
theorem hp_lt {b : Nat} {o : Obj} (h : hp w b = some o) : b < w.heap.size := (Array.getElem?_eq_some_iff.1 h).1
theorem Inv.owned_lt (h : Inv w0 F R st θ w) {g : Nat} (hg : Owned st θ g) : g < w.heap.size := by
  rcases hg with ⟨b, hb, rfl⟩ | ⟨k, hk, hg⟩
  · obtain ⟨cs, hcs⟩ := Option.isSome_iff_exists.1 hb
    obtain ⟨arr, ty, frz, h1, -⟩ := h.boxes b cs hcs
    exact hp_lt h1
  · obtain ⟨d, hd⟩ := Option.isSome_iff_exists.1 hk
    exact (h.objs k d hd).2.1.fp_lt (fun b o hb => hp_lt hb) g hg
structure Float (w0 : World) (F : Nat → Prop) (st : St) (θ : Asg) (fps : List Nat) : Prop where
  nodup : fps.Nodup
  free : ∀ g ∈ fps, ¬ Owned st θ g
  own : ∀ g ∈ fps, F g ∨ w0.heap.size ≤ g
theorem Inv.next (h : Inv w0 F R st θ w) (s : Step R st θ (hp w) st' θ' (hp w'))
    (hsz : w.heap.size ≤ w'.heap.size) (hos : w'.os = w.os) (htp : w'.tape = w.tape) (hout : w'.output = w.output)
    (hblk : ∀ b, b < w.heap.size → hp w' b ≠ hp w b → F b ∨ w0.heap.size ≤ b)
    (hbox : ∀ b cs, st'.boxes b = some cs → (st.boxes b = some cs ∧ hp w' (θ.bx b) = hp w (θ.bx b)) ∨
      ∃ arr ty frz, hp w' (θ'.bx b) = some (.cells arr ty frz) ∧ unfz arr.size frz ∧ RelCs (hp w') R st' θ' cs arr.toList)
    (hobj : ∀ k d, (st'.objs k).dat = some d → ((st.objs k).dat = some d ∧ θ'.ob k = θ.ob k ∧ θ'.fp k = θ.fp k ∧ ∀ g ∈ θ.fp k, hp w' g = hp w g) ∨
      (isSl d.c = true ∧ RelD (hp w') R true (enc d.c d.x) (θ'.ob k) (θ'.fp k) ∧ (θ'.fp k).Nodup))
    (hbb : ∀ b b', (st'.boxes b).isSome = true → (st'.boxes b').isSome = true → θ'.bx b = θ'.bx b' → b = b')
    (hbo : ∀ b k, (st'.boxes b).isSome = true → (st'.objs k).dat.isSome = true → θ'.bx b ∉ θ'.fp k)
    (hoo : ∀ k k' g, (st'.objs k).dat.isSome = true → (st'.objs k').dat.isSome = true → g ∈ θ'.fp k → g ∈ θ'.fp k' → k = k')
    (hown : ∀ g, Owned st' θ' g → (F g ∨ w0.heap.size ≤ g)) : Inv w0 F R st' θ' w' where
  size := Nat.le_trans h.size hsz
  same := fun b hb hF => by
    rw [← h.same b hb hF]
    by_cases e : hp w' b = hp w b
    · exact e
    · rcases hblk b (Nat.lt_of_lt_of_le hb h.size) e with hf | hs
      · exact absurd hf hF
      · omega
  os := hos.trans h.os
  tape := htp.trans h.tape
  out := hout.trans h.out
  rd := h.rd
  boxes := fun b cs hcs => by
    rcases hbox b cs hcs with ⟨h1, h2⟩ | h1
    · obtain ⟨arr, ty, frz, k1, k2, k3⟩ := h.boxes b cs h1
      refine ⟨arr, ty, frz, ?_, k2, RelCs.step s _ _ k3⟩
      rw [(s.bx b (by simp [h1])).2, h2]
      exact k1
    · exact h1
  objs := fun k d hd => by
    rcases hobj k d hd with ⟨h1, h2, h3, h4⟩ | h1
    · obtain ⟨k1, k2, k3⟩ := h.objs k d h1
      rw [h2, h3]
      refine ⟨k1, k2.frame (fun b hb => ?_) (fun _ h => h), k3⟩
      rcases hb with hb | hb
      · exact h4 b hb
      · exact s.rd b hb
    · exact h1
  bb := hbb
  bo := hbo
  oo := hoo
  own := hown
theorem Inv.world (h : Inv w0 F R st θ w) (hsz : w.heap.size ≤ w'.heap.size) (hos : w'.os = w.os) (htp : w'.tape = w.tape) (hout : w'.output = w.output)
    (hblk : ∀ b, b < w.heap.size → hp w' b = hp w b) : Inv w0 F R st θ w' ∧ Step R st θ (hp w) st θ (hp w') := by
  have hR : ∀ b, R b → hp w' b = hp w b := fun b hb => hblk b (Nat.lt_of_lt_of_le (h.rd b hb).1 h.size)
  have hO : ∀ g, Owned st θ g → hp w' g = hp w g := fun g hg => hblk g (h.owned_lt hg)
  have s : Step R st θ (hp w) st θ (hp w') := ⟨hR, fun _ h => ⟨h, rfl⟩, fun k => .inl ⟨rfl, fun hk => ⟨rfl, rfl, fun g hg => hO g (.inr ⟨k, hk, hg⟩)⟩⟩⟩
  refine ⟨h.next s hsz hos htp hout (fun b hb e => absurd (hblk b hb) e) (fun b cs hcs => .inl ⟨hcs, hO _ (.inl ⟨b, by simp [hcs], rfl⟩)⟩)
    (fun k d hd => .inl ⟨hd, rfl, rfl, fun g hg => hO g (.inr ⟨k, by simp [hd], hg⟩)⟩) h.bb h.bo h.oo h.own, s⟩
theorem Inv.newBox (h : Inv w0 F R st θ w) {b : Nat} (hb : st.boxes b = none) {cs : List Cell} {arr : Array Value} {ty : TypeId}
    (hr : RelCs (hp w) R st θ cs arr.toList) :
    Inv w0 F R { st with boxes := upd st.boxes b (some cs) } { θ with bx := upd θ.bx b w.heap.size } (w.alloc (.cells arr ty)) ∧
    Step R st θ (hp w) { st with boxes := upd st.boxes b (some cs) } { θ with bx := upd θ.bx b w.heap.size } (hp (w.alloc (.cells arr ty))) := by
  have hold : ∀ g, g < w.heap.size → hp (w.alloc (.cells arr ty)) g = hp w g := fun g hg => hp_push w _ hg
  have hR : ∀ g, R g → hp (w.alloc (.cells arr ty)) g = hp w g := fun g hg => hold g (Nat.lt_of_lt_of_le (h.rd g hg).1 h.size)
  have hO : ∀ g, Owned st θ g → hp (w.alloc (.cells arr ty)) g = hp w g := fun g hg => hold g (h.owned_lt hg)
  have hne : ∀ b', (st.boxes b').isSome = true → b' ≠ b := fun b' hb' e => by subst e; simp [hb] at hb'
  have s : Step R st θ (hp w) { st with boxes := upd st.boxes b (some cs) } { θ with bx := upd θ.bx b w.heap.size } (hp (w.alloc (.cells arr ty))) := by
    refine ⟨hR, fun b' hb' => ?_, fun k => .inl ⟨rfl, fun hk => ⟨rfl, rfl, fun g hg => hO g (.inr ⟨k, hk, hg⟩)⟩⟩⟩
    simp only [upd_ne _ _ (hne b' hb')]
    exact ⟨hb', by simp⟩
  refine ⟨h.next s (by show w.heap.size ≤ (w.heap.push _).size; simp) rfl rfl rfl (fun g hg e => absurd (hold g hg) e) ?_ (fun k d hd => .inl ⟨hd, rfl, rfl, fun g hg => hO g (.inr ⟨k, Option.isSome_iff_exists.2 ⟨_, hd⟩, hg⟩)⟩) ?_ ?_ h.oo ?_, s⟩
  · intro b' cs' hcs'
    by_cases e : b' = b
    · subst e
      simp only [upd_same, Option.some.injEq] at hcs'
      subst hcs'
      right
      refine ⟨arr, ty, (0, 0), ?_, fun o _ => by simp, RelCs.step s _ _ hr⟩
      simp only [upd_same]
      exact heap_alloc_new w _
    · simp only [upd_ne _ _ e] at hcs'
      exact .inl ⟨hcs', hO _ (.inl ⟨b', Option.isSome_iff_exists.2 ⟨_, hcs'⟩, rfl⟩)⟩
  · intro b1 b2 h1 h2 e
    by_cases e1 : b1 = b <;> by_cases e2 : b2 = b
    · rw [e1, e2]
    · subst e1
      simp only [upd_ne _ _ e2, upd_same] at h2 e
      have := h.owned_lt (.inl ⟨b2, h2, e.symm⟩)
      omega
    · subst e2
      simp only [upd_ne _ _ e1, upd_same] at h1 e
      have := h.owned_lt (.inl ⟨b1, h1, e⟩)
      omega
    · simp only [upd_ne _ _ e1, upd_ne _ _ e2] at h1 h2 e
      exact h.bb b1 b2 h1 h2 e
  · intro b1 k h1 hk
    by_cases e1 : b1 = b
    · subst e1
      simp only [upd_same]
      intro hg
      have := h.owned_lt (.inr ⟨k, hk, hg⟩)
      omega
    · simp only [upd_ne _ _ e1] at h1 ⊢
      exact h.bo b1 k h1 hk
  · rintro g (⟨b1, h1, rfl⟩ | ⟨k, hk, hg⟩)
    · by_cases e1 : b1 = b
      · subst e1; simp only [upd_same]; exact .inr h.size
      · simp only [upd_ne _ _ e1] at h1 ⊢
        exact h.own _ (.inl ⟨b1, h1, rfl⟩)
    · exact h.own _ (.inr ⟨k, hk, hg⟩)
theorem Inv.setBox (h : Inv w0 F R st θ w) {b : Nat} {cs0 cs : List Cell} (hb : st.boxes b = some cs0) {arr : Array Value} {ty : TypeId} {frz : Nat × Nat}
    (hsz : w'.heap.size = w.heap.size) (hos : w'.os = w.os) (htp : w'.tape = w.tape) (hout : w'.output = w.output)
    (hnew : hp w' (θ.bx b) = some (.cells arr ty frz)) (hz : unfz arr.size frz) (hold : ∀ g, g ≠ θ.bx b → hp w' g = hp w g)
    (hr : RelCs (hp w) R st θ cs arr.toList) :
    Inv w0 F R { st with boxes := upd st.boxes b (some cs) } θ w' ∧ Step R st θ (hp w) { st with boxes := upd st.boxes b (some cs) } θ (hp w') := by
  have hob : Owned st θ (θ.bx b) := .inl ⟨b, by simp [hb], rfl⟩
  have hR : ∀ g, R g → hp w' g = hp w g := fun g hg => hold g (fun e => h.notR hob (e ▸ hg))
  have hO : ∀ k, (st.objs k).dat.isSome = true → ∀ g ∈ θ.fp k, hp w' g = hp w g := fun k hk g hg => hold g (fun e => h.bo b k (by simp [hb]) hk (e ▸ hg))
  have s : Step R st θ (hp w) { st with boxes := upd st.boxes b (some cs) } θ (hp w') := by
    refine ⟨hR, fun b' hb' => ⟨?_, rfl⟩, fun k => .inl ⟨rfl, fun hk => ⟨rfl, rfl, hO k hk⟩⟩⟩
    by_cases e : b' = b
    · subst e; simp [upd_same]
    · simp only [upd_ne _ _ e]; exact hb'
  have hdom : ∀ b', (upd st.boxes b (some cs) b').isSome = true → (st.boxes b').isSome = true := fun b' hb' => by
    by_cases e : b' = b
    · subst e; simp [hb]
    · simpa only [upd_ne _ _ e] using hb'
  refine ⟨h.next s (by omega) hos htp hout ?_ ?_ (fun k d hd => .inl ⟨hd, rfl, rfl, hO k (Option.isSome_iff_exists.2 ⟨_, hd⟩)⟩) (fun b1 b2 h1 h2 => h.bb b1 b2 (hdom _ h1) (hdom _ h2))
    (fun b1 k h1 hk => h.bo b1 k (hdom _ h1) hk) h.oo ?_, s⟩
  · intro g _ e
    by_cases eg : g = θ.bx b
    · subst eg; exact h.own _ hob
    · exact absurd (hold g eg) e
  · intro b' cs' hcs'
    by_cases e : b' = b
    · subst e
      simp only [upd_same, Option.some.injEq] at hcs'
      subst hcs'
      exact .inr ⟨arr, ty, frz, hnew, hz, RelCs.step s _ _ hr⟩
    · simp only [upd_ne _ _ e] at hcs'
      exact .inl ⟨hcs', hold _ (fun e' => e (h.bb b' b (Option.isSome_iff_exists.2 ⟨_, hcs'⟩) (by simp [hb]) e'))⟩
  · rintro g (⟨b1, h1, rfl⟩ | ⟨k, hk, hg⟩)
    · exact h.own _ (.inl ⟨b1, hdom _ h1, rfl⟩)
    · exact h.own _ (.inr ⟨k, hk, hg⟩)
theorem Inv.kill (h : Inv w0 F R st θ w) {k : Nat} {d : DV} (hd : (st.objs k).dat = some d) (ver wv : Nat) (hv : (st.objs k).ver < ver ∨ ((st.objs k).ver = ver ∧ (st.objs k).wv < wv)) :
    Inv w0 F R { st with objs := upd st.objs k ⟨ver, wv, none⟩ } θ w ∧ Step R st θ (hp w) { st with objs := upd st.objs k ⟨ver, wv, none⟩ } θ (hp w) ∧
    Float w0 F { st with objs := upd st.objs k ⟨ver, wv, none⟩ } θ (θ.fp k) := by
  have hdom : ∀ k', (upd st.objs k ⟨ver, wv, none⟩ k').dat.isSome = true → k' ≠ k ∧ (st.objs k').dat.isSome = true := fun k' hk' => by
    by_cases e : k' = k
    · subst e; simp [upd_same] at hk'
    · simp only [upd_ne _ _ e] at hk'; exact ⟨e, hk'⟩
  have s : Step R st θ (hp w) { st with objs := upd st.objs k ⟨ver, wv, none⟩ } θ (hp w) := by
    refine ⟨fun _ _ => rfl, fun _ h => ⟨h, rfl⟩, fun k' => ?_⟩
    by_cases e : k' = k
    · subst e
      simp only [upd_same]
      rcases hv with hv | ⟨hv, hw⟩
      · exact .inr (.inl hv)
      · exact .inr (.inr ⟨hv.symm, hw, by simp [hd], fun d' hd' => by cases hd'⟩)
    · simp only [upd_ne _ _ e]; exact .inl ⟨by simp, fun _ => ⟨by simp, by simp, fun _ _ => by simp⟩⟩
  refine ⟨h.next s (Nat.le_refl _) rfl rfl rfl (fun _ _ e => absurd rfl e) (fun b cs hcs => .inl ⟨hcs, rfl⟩) ?_ h.bb (fun b k' hb hk' => h.bo b k' hb (hdom k' hk').2)
    (fun k1 k2 g h1 h2 => h.oo k1 k2 g (hdom _ h1).2 (hdom _ h2).2) ?_, s, ?_⟩
  · intro k' d' hd'
    have hk := hdom k' (Option.isSome_iff_exists.2 ⟨_, hd'⟩)
    simp only [upd_ne _ _ hk.1] at hd'
    exact .inl ⟨hd', by simp, by simp, fun _ _ => by simp⟩
  · rintro g (⟨b1, h1, rfl⟩ | ⟨k', hk', hg⟩)
    · exact h.own _ (.inl ⟨b1, h1, rfl⟩)
    · exact h.own _ (.inr ⟨k', (hdom k' hk').2, hg⟩)
  · refine ⟨(h.objs k d hd).2.2, ?_, fun g hg => h.own g (.inr ⟨k, Option.isSome_iff_exists.2 ⟨_, hd⟩, hg⟩)⟩
    rintro g hg (⟨b1, h1, e⟩ | ⟨k', hk', hg'⟩)
    · exact h.bo b1 k h1 (Option.isSome_iff_exists.2 ⟨_, hd⟩) (e ▸ hg)
    · exact (hdom k' hk').1 (h.oo k' k g (hdom k' hk').2 (Option.isSome_iff_exists.2 ⟨_, hd⟩) hg' hg)
theorem Inv.newObj (h : Inv w0 F R st θ w) {k : Nat} (hk : (st.objs k).dat = none) {d : DV} (hc : isSl d.c = true) {hd : Value} {fp : List Nat} (ver wv : Nat) (hv : (st.objs k).ver < ver)
    (hsz : w.heap.size ≤ w'.heap.size) (hos : w'.os = w.os) (htp : w'.tape = w.tape) (hout : w'.output = w.output)
    (hold : ∀ g, g < w.heap.size → g ∉ fp → hp w' g = hp w g)
    (hr : RelD (hp w') R true (enc d.c d.x) hd fp) (hn : fp.Nodup) (hf : ∀ g ∈ fp, ¬ Owned st θ g ∧ (F g ∨ w0.heap.size ≤ g)) :
    Inv w0 F R { st with objs := upd st.objs k ⟨ver, wv, some d⟩ } { θ with ob := upd θ.ob k hd, fp := upd θ.fp k fp } w' ∧
    Step R st θ (hp w) { st with objs := upd st.objs k ⟨ver, wv, some d⟩ } { θ with ob := upd θ.ob k hd, fp := upd θ.fp k fp } (hp w') := by
  have hR : ∀ g, R g → hp w' g = hp w g := fun g hg => hold g (Nat.lt_of_lt_of_le (h.rd g hg).1 h.size) (fun e => by
    have := h.rd g hg
    rcases (hf g e).2 with h | h
    · exact this.2 h
    · omega)
  have hO : ∀ g, Owned st θ g → hp w' g = hp w g := fun g hg => hold g (h.owned_lt hg) (fun e => (hf g e).1 hg)
  have s : Step R st θ (hp w) { st with objs := upd st.objs k ⟨ver, wv, some d⟩ } { θ with ob := upd θ.ob k hd, fp := upd θ.fp k fp } (hp w') := by
    refine ⟨hR, fun _ h => ⟨h, rfl⟩, fun k' => ?_⟩
    by_cases e : k' = k
    · subst e; simp only [upd_same]; exact .inr (.inl hv)
    · simp only [upd_ne _ _ e]; exact .inl ⟨by simp, fun hk' => ⟨by simp, by simp, fun g hg => hO g (.inr ⟨k', hk', hg⟩)⟩⟩
  have hdom : ∀ k', k' ≠ k → (upd st.objs k ⟨ver, wv, some d⟩ k').dat.isSome = true → (st.objs k').dat.isSome = true := fun k' e hk' => by
    simp only [upd_ne _ _ e] at hk'; exact hk'
  refine ⟨h.next s hsz hos htp hout (fun g hg e => (hf g (Decidable.byContradiction fun hn => e (hold g hg hn))).2) (fun b cs hcs => .inl ⟨hcs, hO _ (.inl ⟨b, Option.isSome_iff_exists.2 ⟨_, hcs⟩, rfl⟩)⟩) ?_ h.bb ?_ ?_ ?_, s⟩
  · intro k' d' hd'
    by_cases e : k' = k
    · subst e
      simp only [upd_same, Option.some.injEq] at hd'
      subst hd'
      right
      simp only [upd_same]
      exact ⟨hc, hr, hn⟩
    · simp only [upd_ne _ _ e] at hd' ⊢
      exact .inl ⟨hd', by simp, by simp, fun g hg => hO g (.inr ⟨k', Option.isSome_iff_exists.2 ⟨_, hd'⟩, hg⟩)⟩
  · intro b k' hb hk'
    by_cases e : k' = k
    · subst e
      simp only [upd_same]
      intro hg
      exact (hf _ hg).1 (.inl ⟨b, hb, rfl⟩)
    · simp only [upd_ne _ _ e]
      exact h.bo b k' hb (hdom k' e hk')
  · intro k1 k2 g h1 h2 g1 g2
    by_cases e1 : k1 = k <;> by_cases e2 : k2 = k
    · rw [e1, e2]
    · subst e1
      simp only [upd_same, upd_ne _ _ e2] at g1 g2
      exact absurd (.inr ⟨k2, hdom k2 e2 h2, g2⟩) (hf _ g1).1
    · subst e2
      simp only [upd_same, upd_ne _ _ e1] at g1 g2
      exact absurd (.inr ⟨k1, hdom k1 e1 h1, g1⟩) (hf _ g2).1
    · simp only [upd_ne _ _ e1, upd_ne _ _ e2] at g1 g2
      exact h.oo k1 k2 g (hdom k1 e1 h1) (hdom k2 e2 h2) g1 g2
  · rintro g (⟨b1, h1, rfl⟩ | ⟨k', hk', hg⟩)
    · exact h.own _ (.inl ⟨b1, h1, rfl⟩)
    · by_cases e : k' = k
      · subst e; simp only [upd_same] at hg; exact (hf _ hg).2
      · simp only [upd_ne _ _ e] at hg
        exact h.own _ (.inr ⟨k', hdom k' e hk', hg⟩)
theorem Inv.setObj (h : Inv w0 F R st θ w) {k : Nat} {d0 d : DV} (hd0 : (st.objs k).dat = some d0) (hc : d.c = d0.c) (hl : lenI d.c d.x = lenI d0.c d0.x) {fp : List Nat} (wv : Nat) (hv : (st.objs k).wv < wv)
    (hsz : w'.heap.size = w.heap.size) (hos : w'.os = w.os) (htp : w'.tape = w.tape) (hout : w'.output = w.output)
    (hold : ∀ g, g ∉ θ.fp k → hp w' g = hp w g)
    (hr : RelD (hp w') R true (enc d.c d.x) (θ.ob k) fp) (hn : fp.Nodup) (hf : ∀ g ∈ fp, g ∈ θ.fp k ∨ (¬ Owned st θ g ∧ (F g ∨ w0.heap.size ≤ g))) :
    Inv w0 F R { st with objs := upd st.objs k ⟨(st.objs k).ver, wv, some d⟩ } { θ with fp := upd θ.fp k fp } w' ∧
    Step R st θ (hp w) { st with objs := upd st.objs k ⟨(st.objs k).ver, wv, some d⟩ } { θ with fp := upd θ.fp k fp } (hp w') := by
  have hks : (st.objs k).dat.isSome = true := Option.isSome_iff_exists.2 ⟨_, hd0⟩
  have hR : ∀ g, R g → hp w' g = hp w g := fun g hg => hold g (fun e => h.notR (.inr ⟨k, hks, e⟩) hg)
  have hB : ∀ b, (st.boxes b).isSome = true → hp w' (θ.bx b) = hp w (θ.bx b) := fun b hb => hold _ (fun e => h.bo b k hb hks e)
  have hO : ∀ k', k' ≠ k → (st.objs k').dat.isSome = true → ∀ g ∈ θ.fp k', hp w' g = hp w g := fun k' e hk' g hg => hold g (fun e' => e (h.oo k' k g hk' hks hg e'))
  have s : Step R st θ (hp w) { st with objs := upd st.objs k ⟨(st.objs k).ver, wv, some d⟩ } { θ with fp := upd θ.fp k fp } (hp w') := by
    refine ⟨hR, fun _ h => ⟨h, rfl⟩, fun k' => ?_⟩
    by_cases e : k' = k
    · subst e
      simp only [upd_same]
      refine .inr (.inr ⟨trivial, hv, hks, fun d' hd' => ?_⟩)
      simp only [Option.some.injEq] at hd'
      subst hd'
      exact ⟨trivial, d0, hd0, hc, hl⟩
    · simp only [upd_ne _ _ e]; exact .inl ⟨by simp, fun hk' => ⟨by simp, by simp, hO k' e hk'⟩⟩
  have hdom : ∀ k', k' ≠ k → (upd st.objs k ⟨(st.objs k).ver, wv, some d⟩ k').dat.isSome = true → (st.objs k').dat.isSome = true := fun k' e hk' => by
    simp only [upd_ne _ _ e] at hk'; exact hk'
  refine ⟨h.next s (by omega) hos htp hout ?_ (fun b cs hcs => .inl ⟨hcs, hB b (Option.isSome_iff_exists.2 ⟨_, hcs⟩)⟩) ?_ h.bb ?_ ?_ ?_, s⟩
  · intro g _ e
    by_cases eg : g ∈ θ.fp k
    · exact h.own _ (.inr ⟨k, hks, eg⟩)
    · exact absurd (hold g eg) e
  · intro k' d' hd'
    by_cases e : k' = k
    · subst e
      simp only [upd_same, Option.some.injEq] at hd'
      subst hd'
      right
      simp only [upd_same]
      exact ⟨by rw [hc]; exact (h.objs _ d0 hd0).1, hr, hn⟩
    · simp only [upd_ne _ _ e] at hd' ⊢
      exact .inl ⟨hd', by simp, by simp, hO k' e (Option.isSome_iff_exists.2 ⟨_, hd'⟩)⟩
  · intro b k' hb hk'
    by_cases e : k' = k
    · subst e
      simp only [upd_same]
      intro hg
      rcases hf _ hg with hg' | hg'
      · exact h.bo b _ hb hks hg'
      · exact hg'.1 (.inl ⟨b, hb, rfl⟩)
    · simp only [upd_ne _ _ e]
      exact h.bo b k' hb (hdom k' e hk')
  · intro k1 k2 g h1 h2 g1 g2
    by_cases e1 : k1 = k <;> by_cases e2 : k2 = k
    · rw [e1, e2]
    · subst e1
      simp only [upd_same, upd_ne _ _ e2] at g1 g2
      rcases hf _ g1 with hg' | hg'
      · exact h.oo _ k2 g hks (hdom k2 e2 h2) hg' g2
      · exact absurd (.inr ⟨k2, hdom k2 e2 h2, g2⟩) hg'.1
    · subst e2
      simp only [upd_same, upd_ne _ _ e1] at g1 g2
      rcases hf _ g2 with hg' | hg'
      · exact h.oo k1 _ g (hdom k1 e1 h1) hks g1 hg'
      · exact absurd (.inr ⟨k1, hdom k1 e1 h1, g1⟩) hg'.1
    · simp only [upd_ne _ _ e1, upd_ne _ _ e2] at g1 g2
      exact h.oo k1 k2 g (hdom k1 e1 h1) (hdom k2 e2 h2) g1 g2
  · rintro g (⟨b1, h1, rfl⟩ | ⟨k', hk', hg⟩)
    · exact h.own _ (.inl ⟨b1, h1, rfl⟩)
    · by_cases e : k' = k
      · subst e; simp only [upd_same] at hg
        rcases hf _ hg with hg' | hg'
        · exact h.own _ (.inr ⟨_, hks, hg'⟩)
        · exact hg'.2
      · simp only [upd_ne _ _ e] at hg
        exact h.own _ (.inr ⟨k', hdom k' e hk', hg⟩)
end Go.Ev
namespace Go.Ev
variable {P : Program} {w : World}
theorem one1_eq (v : Value) : one1 v = v.oneCell' := by cases v <;> rfl
theorem mem_load {g o n : Nat} {cur : Array Value} {ty : TypeId} {frz : Nat × Nat} (hg : hp w g = some (.cells cur ty frz)) (hn : o + n ≤ cur.size) :
    (loadCells ⟨g, o, none⟩ n).run P w = .ok ((cur.toList.drop o).take n).toArray w := by
  have hl : ((cur.toList.drop o).take n).length = n := by simp; omega
  have h := run_loadCells_list (P := P) w ⟨g, o, none⟩ ((cur.toList.drop o).take n) (fun j v hj => by
    rw [Addr.add_lit, cell_of_row w g (o + j) cur ty frz hg]
    rw [List.getElem?_take] at hj
    split at hj
    · rw [List.getElem?_drop] at hj
      rw [← hj]; simp
    · cases hj)
  rw [hl] at h
  exact h
theorem mem_load1 {g o : Nat} {cur : Array Value} {ty : TypeId} {frz : Nat × Nat} {v : Value} (hg : hp w g = some (.cells cur ty frz)) (hv : cur.toList[o]? = some v) :
    (load ⟨g, o, none⟩).run P w = .ok v w := by
  have hv' : cur[o]? = some v := by simpa using hv
  rw [run_load, cell_of_row w g o cur ty frz hg, hv']
theorem unfz_frozen {g o : Nat} {cur : Array Value} {ty : TypeId} {frz : Nat × Nat} (hg : hp w g = some (.cells cur ty frz)) (hz : unfz cur.size frz) (ho : o < cur.size) : w.frozen? ⟨g, o, none⟩ = false := by
  have hg' : w.heap[g]? = some (.cells cur ty frz) := hg
  obtain ⟨lo, hi⟩ := frz
  have := hz o ho
  simp only [World.frozen?, hg', Bool.and_eq_false_iff, decide_eq_false_iff_not]
  simp only [not_and] at this
  by_cases h : lo ≤ o
  · exact .inr (this h)
  · exact .inl h
theorem mem_store {g o : Nat} : ∀ {vs : List Value} {i : Nat} {cur : Array Value} {ty : TypeId} {frz : Nat × Nat} {w : World}, hp w g = some (.cells cur ty frz) → unfz cur.size frz → o + i + vs.length ≤ cur.size → (∀ v ∈ vs, one1 v = true) →
    (storeCells ⟨g, o, none⟩ vs i).run P w = .ok () (w.setRow g (cur.toList.take (o + i) ++ (vs ++ cur.toList.drop (o + i + vs.length))).toArray)
  | [], i, cur, ty, frz, w, hg, _, _, _ => by
    simp only [storeCells, List.nil_append, List.length_nil, Nat.add_zero, List.take_append_drop, Array.toArray_toList]
    rw [setRow_self w g cur ty frz hg]
    rfl
  | v :: rest, i, cur, ty, frz, w, hg, hz, hl, h1 => by
    have hi : o + i < cur.size := by simp at hl; omega
    have hg' : w.heap[g]? = some (.cells cur ty frz) := hg
    have hcell : w.cell? ⟨g, o + i, none⟩ = some cur[o + i] := by simp [World.cell?, hg', hi]
    have hfro : w.frozen? ⟨g, o + i, none⟩ = false := unfz_frozen hg hz hi
    have hst : (store ((⟨g, o, none⟩ : Addr).add i) v).run P w = .ok () (w.setRow g (cur.setIfInBounds (o + i) v)) := by
      rw [Addr.add_lit, run_store P w _ v _ (by rw [← one1_eq]; exact h1 v (by simp)), hcell]
      simp [hfro, setCell_eq_setRow w g (o + i) cur ty frz v hg]
    have ih := mem_store (g := g) (o := o) (vs := rest) (i := i + 1) (w := w.setRow g (cur.setIfInBounds (o + i) v)) (cur := cur.setIfInBounds (o + i) v) (setRow_heap w g cur _ ty _ hg)
      (by simpa using hz) (by simp at hl ⊢; omega) (fun x hx => h1 x (by simp [hx]))
    simp only [storeCells, Sem.run_bind, hst, Result.andThen_ok, ih, setRow_setRow]
    congr 3
    have e1 : o + (i + 1) = (o + i) + 1 := by omega
    rw [e1]
    have hle : o + i < cur.toList.length := by simpa using hi
    simp only [Array.toList_setIfInBounds, List.length_cons]
    rw [List.take_succ_eq_append_getElem (by simpa using hle), List.take_set_of_le (by omega)]
    rw [List.drop_set_of_lt (by omega)]
    simp
    omega
def zeroOk : Cell → Value → Bool
  | .b false, .bool false => true
  | .i k n, .int k' m => decide (k = k' ∧ n = 0 ∧ m = 0)
  | .s [], .string s => decide (s = ⟨#[]⟩)
  | .nl, .slice none 0 0 => true
  | .nilp, .pointer none => true
  | .nilf, .nilFunc => true
  | .er false, .nilIface => true
  | _, _ => false
def zerosOk : List Cell → List Value → Bool
  | [], [] => true
  | c :: cs, v :: vs => zeroOk c v && zerosOk cs vs
  | _, _ => false
def zeroV : CT → Value → Bool
  | .bool, .bool false => true
  | .int k, .int k' m => decide (k = k' ∧ m = 0)
  | .str, .string s => decide (s = ⟨#[]⟩)
  | .sl _, .slice none 0 0 => true
  | .tree _, .slice none 0 0 => true
  | _, _ => false
def zeroVs : CTs → List Value → Bool
  | .one c, [v] => zeroV c v
  | .cons c cs, v :: vs => zeroV c v && zeroVs cs vs
  | _, _ => false
structure FieldsOk (P : Program) (fields : Array Field) (fs : List (Nat × TypeId)) : Prop where
  len : fields.size = fs.length
  at_ : ∀ (i off : Nat) (t : TypeId), fs[i]? = some (off, t) → ∃ f : Field, fields[i]? = some f ∧ f.offset = off ∧ f.type = t ∧ ∃ inf, P.info? t = some inf ∧ inf.size ≠ 0
def UOk (P : Program) (t : TypeId) : U → Prop
  | .bool => P.underlying t = some .bool
  | .int k => P.underlying t = some (.int k)
  | .str => P.underlying t = some .string
  | .slice e => P.underlying t = some (.slice e)
  | .struct fs => ∃ fields, P.underlying t = some (.struct fields) ∧ FieldsOk P fields fs
  | .ptr => ∃ e, P.underlying t = some (.pointer e)
  | .func => ∃ a b c, P.underlying t = some (.func a b c)
  | .iface => ∃ ms, P.underlying t = some (.interface ms)
  | .other => False
def eqRun (P : Program) (t : TypeId) : Prop :=
  P.eqGuardType P.depth t = false ∧
  ∀ (xs ys : List Cell) (vs us : Array Value) (bs : List Bool) (w : World) (H : Heap) (R : Nat → Prop) (st : St) (θ : Asg), eqCells xs ys = some bs → RelCs H R st θ xs vs.toList → RelCs H R st θ ys us.toList →
    (Op.equal t (.agg vs) (.agg us)).run P w = .ok (andL bs) w
structure TyOk (P : Program) (T : TypeId → Option TyI) (t : TypeId) (i : TyI) : Prop where
  info : ∃ inf z, P.info? t = some inf ∧ inf.size = i.size ∧ inf.bytes = i.bytes ∧ inf.zero = some z ∧ zerosOk i.zero z.cells.toList = true ∧ (match i.u with | .struct _ => ∃ cs, z = .agg cs | _ => one1 z = true)
  u : UOk P t i.u
  sl : ∀ c, i.cts = some (.one c) → isSl c = true → ∀ e, i.u = .slice e → ∃ inf z, P.info? e = some inf ∧ inf.size = (elemTs c).size ∧ inf.bytes ≤ 1024 ∧ inf.zero = some z ∧ zeroVs (elemTs c) z.cells.toList = true ∧
    (match elemTs c with | .one (.int .u8) => P.underlying e = some (.int .u8) | _ => True)
  one : (match i.u with | .struct _ => True | _ => i.size = 1)
  eq : i.eq = true → (∃ fs, i.u = .struct fs) ∧ eqRun P t
end Go.Ev
namespace Go.Ev
section
variable {H : Heap} {R : Nat → Prop} {own : Bool} {c : CT} {x : Interp c} {v : Value} {fp : List Nat}
theorem RelD.slc (hc : isSl c = true) (h : RelD H R own (enc c x) v fp) : ∃ a cap, v = .slice a (lenI c x) cap ∧ lenI c x ≤ cap ∧ cap ≤ maxLen := by
  rw [enc_sl hc] at h
  simp only [RelD] at h
  obtain ⟨a, len, cap, rfl, h0, h1, h2, h3, -⟩ := h
  have hl : len = lenI c x := by
    rw [cellsI_length] at h1
    exact (Nat.eq_of_mul_eq_mul_right h0 h1).symm
  subst hl
  exact ⟨a, cap, rfl, h2, h3⟩
theorem RelD.shAt (hc : isSl c = true) {a : Option Addr} {len cap : Nat} (h : RelD H R false (enc c x) (.slice a len cap) fp) (hne : lenI c x ≠ 0) :
    ∃ g off cur ty frz, a = some ⟨g, off, none⟩ ∧ R g ∧ H g = some (.cells cur ty frz) ∧ off + (lenI c x) * (elemTs c).size ≤ cur.size ∧
      RelDs H R false (cellsI c x) ((cur.toList.drop off).take (lenI c x * (elemTs c).size)) [] := by
  obtain ⟨a', cap', e, -, -⟩ := h.slc hc
  cases e
  rw [enc_sl hc] at h
  simp only [RelD] at h
  obtain ⟨a1, len1, cap1, e1, h0, h1, h2, h3, h4⟩ := h
  cases e1
  rcases h4 with ⟨h4, -⟩ | ⟨-, -, h4⟩
  · simp at h4
  · rcases h4 with h4 | ⟨g, off, cur, ty, frz, rfl, h5, h6, h7, h8⟩
    · rw [h4] at h1
      simp only [List.length_nil] at h1
      rcases Nat.mul_eq_zero.1 h1.symm with h | h
      · exact absurd h hne
      · omega
    · exact ⟨g, off, cur, ty, frz, rfl, h5, h6, h7, h8⟩
theorem RelD.shMk (hc : isSl c = true) {a : Option Addr} {cap : Nat} (h2 : lenI c x ≤ cap) (h3 : cap ≤ maxLen)
    (h : lenI c x = 0 ∨ ∃ g off cur ty frz, a = some ⟨g, off, none⟩ ∧ R g ∧ H g = some (.cells cur ty frz) ∧ off + (lenI c x) * (elemTs c).size ≤ cur.size ∧
      RelDs H R false (cellsI c x) ((cur.toList.drop off).take (lenI c x * (elemTs c).size)) []) : RelD H R false (enc c x) (.slice a (lenI c x) cap) [] := by
  rw [enc_sl hc]
  simp only [RelD]
  refine ⟨a, _, cap, rfl, CTs.size_pos _, cellsI_length x, h2, h3, .inr ⟨trivial, trivial, ?_⟩⟩
  rcases h with h | h
  · left
    exact List.eq_nil_of_length_eq_zero (by rw [cellsI_length, h, Nat.zero_mul])
  · exact .inr h
theorem RelDs.cut {ds : List Dat} {vs : List Value} (h : RelDs H R own ds vs []) (i n : Nat) : RelDs H R own ((ds.drop i).take n) ((vs.drop i).take n) [] := by
  have hl := h.length
  rw [← List.take_append_drop i ds] at h
  obtain ⟨f1, f2, e, k1, k2⟩ := h.split
  have e' := List.append_eq_nil_iff.1 e.symm
  obtain ⟨rfl, rfl⟩ := e'
  have e1 : (vs.drop (ds.take i).length) = vs.drop i := by
    rw [List.length_take]
    by_cases hi : i ≤ ds.length
    · rw [Nat.min_eq_left hi]
    · rw [Nat.min_eq_right (by omega), List.drop_of_length_le (by omega), List.drop_of_length_le (by omega)]
  rw [e1] at k2
  have hl2 := k2.length
  rw [← List.take_append_drop n (ds.drop i)] at k2
  obtain ⟨f1, f2, e, k3, k4⟩ := k2.split
  have e' := List.append_eq_nil_iff.1 e.symm
  obtain ⟨rfl, rfl⟩ := e'
  have e2 : ((vs.drop i).take ((ds.drop i).take n).length) = (vs.drop i).take n := by
    rw [List.length_take]
    by_cases hi : n ≤ (ds.drop i).length
    · rw [Nat.min_eq_left hi]
    · rw [Nat.min_eq_right (by omega), List.take_of_length_le (by omega), List.take_of_length_le (by omega)]
  rw [e2] at k3
  exact k3
theorem lenI_cut {l h : Nat} (hlh : l ≤ h) (hh : h ≤ lenI c x) : lenI c (takeI c (h - l) (dropI c l x)) = h - l := by
  rw [lenI_take, lenI_drop]; omega
theorem RelD.cut (hc : isSl c = true) {a : Option Addr} {cap l h m : Nat} (hr : RelD H R false (enc c x) (.slice a (lenI c x) cap) fp) (hlh : l ≤ h) (hh : h ≤ lenI c x) (hm : h - l ≤ m) (hm2 : m ≤ maxLen) (a' : Option Addr)
    (ha : h ≠ l → a' = a.map (·.add (l * (elemTs c).size))) : RelD H R false (enc c (takeI c (h - l) (dropI c l x))) (.slice a' (h - l) m) [] := by
  have hl := lenI_cut (x := x) hlh hh
  have key := RelD.shMk (H := H) (R := R) (c := c) (x := takeI c (h - l) (dropI c l x)) (a := a') (cap := m) hc (by omega) hm2
  rw [hl] at key
  refine key ?_
  by_cases e : h = l
  · left; omega
  · right
    obtain ⟨g, off, cur, ty, frz, rfl, h5, h6, h7, h8⟩ := hr.shAt hc (by omega)
    refine ⟨g, off + l * (elemTs c).size, cur, ty, frz, ?_, h5, h6, ?_, ?_⟩
    · rw [ha e]; simp [Addr.add_lit]
    · have := Nat.mul_le_mul_right (elemTs c).size hh
      have e3 : (h - l) * (elemTs c).size = h * (elemTs c).size - l * (elemTs c).size := Nat.sub_mul _ _ _
      have := Nat.mul_le_mul_right (elemTs c).size hlh
      omega
    · have h9 := h8.cut (l * (elemTs c).size) ((h - l) * (elemTs c).size)
      rw [cellsI_take, cellsI_drop]
      have e4 : (((cur.toList.drop off).take (lenI c x * (elemTs c).size)).drop (l * (elemTs c).size)).take ((h - l) * (elemTs c).size) =
          (cur.toList.drop (off + l * (elemTs c).size)).take ((h - l) * (elemTs c).size) := by
        rw [List.drop_take, List.take_take, List.drop_drop]
        congr 1
        have := Nat.mul_le_mul_right (elemTs c).size hh
        have e3 : (h - l) * (elemTs c).size = h * (elemTs c).size - l * (elemTs c).size := Nat.sub_mul _ _ _
        have := Nat.mul_le_mul_right (elemTs c).size hlh
        omega
      rw [e4] at h9
      exact h9
theorem getI_lt {i : Nat} {e : InterpL (elemTs c)} (h : getI c x i = some e) : i < lenI c x := by
  rw [getI_els] at h
  rw [lenI_els]
  exact (List.getElem?_eq_some_iff.1 h).1
theorem cellsI_getcut {i : Nat} {e : InterpL (elemTs c)} (h : getI c x i = some e) : ((cellsI c x).drop (i * (elemTs c).size)).take (elemTs c).size = encL (elemTs c) e := by
  have h1 := cellsI_get h
  have hl : ((cellsI c x).take (i * (elemTs c).size)).length = i * (elemTs c).size := by
    rw [List.length_take, cellsI_length]
    have := Nat.mul_le_mul_right (elemTs c).size (Nat.le_of_lt (getI_lt h))
    omega
  conv => lhs; rw [h1]
  rw [List.drop_left' hl]
  rw [List.take_left' (encL_length _ _)]
theorem RelD.elem (hc : isSl c = true) {a : Option Addr} {len cap i : Nat} {e : InterpL (elemTs c)} (hr : RelD H R false (enc c x) (.slice a len cap) fp) (hi : getI c x i = some e) :
    ∃ g off, a = some ⟨g, off, none⟩ ∧ PtrAt H R (elemTs c) e 0 (.pointer (some ⟨g, off + i * (elemTs c).size, none⟩)) := by
  have hlt := getI_lt hi
  obtain ⟨g, off, cur, ty, frz, rfl, h5, h6, h7, h8⟩ := hr.shAt hc (by omega)
  refine ⟨g, off, rfl, g, off + i * (elemTs c).size, cur, ty, frz, rfl, h5, h6, ?_, ?_⟩
  · have := Nat.mul_le_mul_right (elemTs c).size hlt
    rw [Nat.succ_mul] at this
    omega
  · have h9 := h8.cut (i * (elemTs c).size) (elemTs c).size
    rw [cellsI_getcut hi] at h9
    have e4 : (((cur.toList.drop off).take (lenI c x * (elemTs c).size)).drop (i * (elemTs c).size)).take (elemTs c).size =
        (cur.toList.drop (off + i * (elemTs c).size)).take (elemTs c).size := by
      rw [List.drop_take, List.take_take, List.drop_drop]
      congr 1
      have := Nat.mul_le_mul_right (elemTs c).size hlt
      rw [Nat.succ_mul] at this
      omega
    rw [e4] at h9
    exact h9
theorem RelD.ownAt (hc : isSl c = true) (h : RelD H R true (enc c x) v fp) :
    ∃ a cap, v = .slice a (lenI c x) cap ∧ lenI c x ≤ cap ∧ cap ≤ maxLen ∧ ((cap = 0 ∧ fp = []) ∨ ∃ g cur ty frz fps, a = some ⟨g, 0, none⟩ ∧ H g = some (.cells cur ty frz) ∧ cur.size = cap * (elemTs c).size ∧ unfz cur.size frz ∧
          fp = g :: fps ∧ RelDs H R true (cellsI c x) (cur.toList.take (lenI c x * (elemTs c).size)) fps) := by
  obtain ⟨a', cap', e, -, -⟩ := h.slc hc
  subst e
  rw [enc_sl hc] at h
  simp only [RelD] at h
  obtain ⟨a1, len1, cap1, e1, h0, h1, h2, h3, h4⟩ := h
  cases e1
  refine ⟨_, _, rfl, h2, h3, ?_⟩
  rcases h4 with ⟨-, h4⟩ | ⟨h4, -⟩
  · exact h4
  · simp at h4
theorem RelD.ownMk (hc : isSl c = true) {a : Option Addr} {cap : Nat} (h2 : lenI c x ≤ cap) (h3 : cap ≤ maxLen)
    (h : (cap = 0 ∧ fp = []) ∨ ∃ g cur ty frz fps, a = some ⟨g, 0, none⟩ ∧ H g = some (.cells cur ty frz) ∧ cur.size = cap * (elemTs c).size ∧ unfz cur.size frz ∧
          fp = g :: fps ∧ RelDs H R true (cellsI c x) (cur.toList.take (lenI c x * (elemTs c).size)) fps) : RelD H R true (enc c x) (.slice a (lenI c x) cap) fp := by
  rw [enc_sl hc]
  simp only [RelD]
  exact ⟨a, _, cap, rfl, CTs.size_pos _, cellsI_length x, h2, h3, .inl ⟨trivial, h⟩⟩
end
theorem castI_eq {c c' : CT} {x : Interp c} {y : Interp c'} (h : castI c c' x = some y) : ∃ e : c = c', e ▸ x = y := by
  unfold castI at h
  split at h
  · rename_i hb
    simp only [Option.some.injEq] at h
    exact ⟨CT.eq_of_beq c c' hb, h⟩
  · cases h
section
variable {w0 w : World} {F R : Nat → Prop} {st : St} {θ : Asg} {α : Type}
theorem rdSl_sound (hI : Inv w0 F R st θ w) {cl : Cell} {v : Value} (hr : RelC (hp w) R st θ cl v) {nil : M α} {k : (c : CT) → Interp c → M α} {a : α} {st' : St} {l : Log}
    (h : (rdSl cl nil k).run st = some (a, st', l)) :
    ((∃ ad, v = .slice ad 0 0) ∧ nil.run st = some (a, st', l)) ∨
    ∃ (c : CT) (x : Interp c) (l1 : Log) (R' : Nat → Prop), (k c x).run st = some (a, st', l1) ∧ isSl c = true ∧ RelD (hp w) R' false (enc c x) v [] ∧
      (∀ b, R' b → R b ∨ Owned st θ b) := by
  cases cl <;> simp only [rdSl, M.run, reduceCtorEq] at h
  case nl => left; simp only [RelC] at hr; exact ⟨⟨none, hr⟩, h⟩
  case z0 => left; simp only [RelC] at hr; exact ⟨hr, h⟩
  case sh c x => right; simp only [RelC] at hr; exact ⟨c, x, l, R, h, hr.1, hr.2, fun b hb => .inl hb⟩
  case shn c x => right; simp only [RelC] at hr; exact ⟨c, x, l, R, h, hr.1, hr.2.1, fun b hb => .inl hb⟩
  case ob n ver vw =>
    right
    simp only [Option.map_eq_some_iff] at h
    obtain ⟨⟨a1, s1, l1⟩, h1, h2⟩ := h
    simp only [Prod.mk.injEq] at h2
    obtain ⟨rfl, rfl, rfl⟩ := h2
    cases hd : (st.objs n).dat with
    | none => simp [hd, M.run] at h1
    | some d =>
      simp only [hd, M.gd, M.run] at h1
      split at h1
      · rename_i hv
        split at h1
        · rename_i hvw
          have hv' := Nat.eq_of_beq_eq_true hv
          simp only [RelC] at hr
          obtain ⟨k1, k2⟩ := hr
          have k3 := k2 hv' (by simp [hd])
          obtain ⟨q1, q2, q3⟩ := hI.objs n d hd
          have hown : ∀ b, b ∈ θ.fp n → R b ∨ Owned st θ b := fun b hb => .inr (.inr ⟨n, by simp [hd], hb⟩)
          have hsh := q2.share (R' := fun b => b ∈ θ.fp n) (fun b hb => hb)
          refine ⟨d.c, _, l1, fun b => b ∈ θ.fp n, h1, q1, ?_, hown⟩
          cases vw with
          | none =>
            simp only at k3
            subst k3
            exact hsh
          | some m =>
            simp only at k3
            obtain ⟨ad, len, cap, e1, e2⟩ := k3
            subst e2
            obtain ⟨ad', cap', e3, e4, e5⟩ := q2.slc q1
            rw [e1] at e3
            cases e3
            have hm : m ≤ lenI d.c d.x := by simpa [vwOk] using hvw
            rw [e1] at hsh
            have := RelD.cut (l := 0) (h := m) (m := cap) q1 hsh (Nat.zero_le _) hm (by omega) e5 ad (fun _ => by
              cases ad with
              | none => rfl
              | some z => simp [Addr.add])
            have hz : dropI d.c 0 d.x = d.x := by
              cases d with
              | mk c x => cases c <;> simp [dropI]
            rw [hz] at this
            exact this
        · cases h1
      · cases h1
  case gs n ver wv pl c x =>
    right
    simp only [Option.map_eq_some_iff] at h
    obtain ⟨⟨a1, s1, l1⟩, h1, h2⟩ := h
    simp only [Prod.mk.injEq] at h2
    obtain ⟨rfl, rfl, rfl⟩ := h2
    cases hd : (st.objs n).dat with
    | none => simp [hd, M.run] at h1
    | some d =>
      simp only [hd, M.gd, M.run] at h1
      split at h1
      · rename_i hv
        split at h1
        · rename_i hw
          simp only [RelC] at hr
          obtain ⟨k0, k1, k2⟩ := hr
          obtain ⟨k3, k4⟩ := k2 (Nat.eq_of_beq_eq_true hv)
          have k5 := k4 (Nat.eq_of_beq_eq_true hw) d hd
          exact ⟨c, x, l1, fun b => b ∈ θ.fp n, h1, k0, k5.1, fun b hb => .inr (.inr ⟨n, by simp [hd], hb⟩)⟩
        · cases h1
      · cases h1
end
end Go.Ev
namespace Go.Ev
structure Ok (P : Program) (T : TypeId → Option TyI) : Prop where
  tys : ∀ t i, T t = some i → TyOk P T t i
  mixed : P.follows .mixedOrders = true
def Tm (H : Heap) (R : Nat → Prop) (st : St) (θ : Asg) (a : Act) : Prop := ∀ t, RelV H R st θ (st.tmps t) (a.tmps.getD t undef)
section
variable {H : Heap} {R : Nat → Prop} {st : St} {θ : Asg} {a : Act}
theorem relV_undef (v : Value) : RelV H R st θ (.one .undef) v := by simp [RelV, RelC]
theorem const_rel (v : Value) : RelV H R st θ (constTV v) v := by
  unfold constTV
  split
  · simp [RelV, RelC, one1]
  · rename_i k n
    by_cases h : k.min ≤ n ∧ n ≤ k.max
    · simp [h, RelV, RelC, one1]
    · simp only [h, decide_false, cond_false]; exact relV_undef _
  · rename_i s
    cases hb : Nat.ble s.data.toList.length mx
    · simp only [cond_false]; exact relV_undef _
    · have : s.data.toList.length ≤ maxLen := by
        have := Nat.le_of_ble_eq_true hb
        simpa [mx, maxLen] using this
      simp only [cond_true, RelV, RelC, one1]
      exact ⟨⟨by cases s; simp, this⟩, .inr trivial⟩
  · simp [RelV, RelC, one1]
  · simp [RelV, RelC, one1]
  · simp [RelV, RelC, one1]
  · simp [RelV, RelC, one1]
  · exact relV_undef _
theorem eval_rel (h : Tm H R st θ a) (c : Operand) : RelV H R st θ (evalSt st c) (a.eval c) := by
  cases c with
  | tmp t => exact h t
  | const v => exact const_rel v
  | global g => exact relV_undef _
  | func f => simp [evalSt, Act.eval, RelV, RelC, RelCs, one1]
theorem eval_one (h : Tm H R st θ a) {c : Operand} {x : Cell} (e : evalSt st c = .one x) (hx : x ≠ .undef) : RelC H R st θ x (a.eval c) ∧ one1 (a.eval c) = true := by
  have := eval_rel h c
  rw [e] at this
  simp only [RelV] at this
  exact ⟨this.1, this.2.resolve_left hx⟩
theorem eval_int (h : Tm H R st θ a) {c : Operand} {k : IntKind} {n : Int} (e : evalSt st c = .one (.i k n)) : a.eval c = .int k n ∧ k.min ≤ n ∧ n ≤ k.max := by
  have := (eval_one h e (by simp)).1
  simpa only [RelC] using this
theorem eval_str (h : Tm H R st θ a) {c : Operand} {x : Bytes} (e : evalSt st c = .one (.s x)) : a.eval c = .string ⟨x.toArray⟩ ∧ x.length ≤ maxLen := by
  have := (eval_one h e (by simp)).1
  simpa only [RelC] using this
theorem eval_bool (h : Tm H R st θ a) {c : Operand} {x : Bool} (e : evalSt st c = .one (.b x)) : a.eval c = .bool x := by
  have := (eval_one h e (by simp)).1
  simpa only [RelC] using this
end
theorem wrap_range (k : IntKind) (n : Int) : k.min ≤ k.wrap n ∧ k.wrap n ≤ k.max := by
  cases k <;> simp only [IntKind.wrap, IntKind.min, IntKind.max, IntKind.bits, IntKind.signed] <;> (try simp) <;> (try split) <;> omega
def Res (P : Program) (o : Oper) (a : Act) (w : World) (u : Value) (w' : World) : Prop :=
  (execOp a.eval o).run P w = .ok (.value u) w' ∨ ((execOp a.eval o).run P w = .ok .skip w' ∧ u = undef)
structure Done (P : Program) (w0 : World) (F R : Nat → Prop) (st : St) (θ : Asg) (w : World) (o : Oper) (a : Act) (v : TV) (st' : St) : Prop where
  out : ∃ u w' θ', Res P o a w u w' ∧ Inv w0 F R st' θ' w' ∧ Step R st θ (hp w) st' θ' (hp w') ∧ RelV (hp w') R st' θ' v u
section
variable {P : Program} {T : TypeId → Option TyI} {w0 w : World} {F R : Nat → Prop} {st st' : St} {θ : Asg} {a : Act} {o : Oper} {v : TV} {l : Log}
theorem Done.pure (hI : Inv w0 F R st θ w) {u : Value} (h : (execOp a.eval o).run P w = .ok (.value u) w) (hr : RelV (hp w) R st θ v u) : Done P w0 F R st θ w o a v st :=
  ⟨u, w, θ, .inl h, hI, Step.refl _ _ _ _, hr⟩
theorem M.gd_run {α : Type} {x : Bool} {m : M α} {r : α × St × Log} (h : (M.gd x m).run st = some r) : x = true ∧ m.run st = some r := by
  cases x <;> simp [M.gd, M.run] at h
  exact ⟨rfl, h⟩
theorem M.ret_run {α : Type} {x y : α} (h : (M.ret x).run st = some (y, st', l)) : y = x ∧ st' = st := by
  simp only [M.run, Option.some.injEq, Prod.mk.injEq] at h
  exact ⟨h.1.symm, h.2.1.symm⟩
theorem M.ro_run {α : Type} {k : Nat} {f : OB → M α} {y : α} (h : (M.ro k f).run st = some (y, st', l)) : ∃ l1, (f (st.objs k)).run st = some (y, st', l1) := by
  simp only [M.run, Option.map_eq_some_iff] at h
  obtain ⟨⟨a1, s1, l1⟩, h1, h2⟩ := h
  simp only [Prod.mk.injEq] at h2
  obtain ⟨rfl, rfl, -⟩ := h2
  exact ⟨l1, h1⟩
theorem M.wo_run {α : Type} {k : Nat} {ob : OB} {m : M α} {y : α} (h : (M.wo k ob m).run st = some (y, st', l)) : ∃ l1, m.run { st with objs := upd st.objs k ob } = some (y, st', l1) := by
  simp only [M.run, Option.map_eq_some_iff] at h
  obtain ⟨⟨a1, s1, l1⟩, h1, h2⟩ := h
  simp only [Prod.mk.injEq] at h2
  obtain ⟨rfl, rfl, -⟩ := h2
  exact ⟨l1, h1⟩
theorem M.rb_run {α : Type} {b : Nat} {k : List Cell → M α} {y : α} (h : (M.rb b k).run st = some (y, st', l)) : ∃ cs l1, st.boxes b = some cs ∧ (k cs).run st = some (y, st', l1) := by
  simp only [M.run] at h
  split at h
  · rename_i cs hb
    simp only [Option.map_eq_some_iff] at h
    obtain ⟨⟨a1, s1, l1⟩, h1, h2⟩ := h
    simp only [Prod.mk.injEq] at h2
    obtain ⟨rfl, rfl, -⟩ := h2
    exact ⟨cs, l1, hb, h1⟩
  · cases h
theorem M.wb_run {α : Type} {b : Nat} {cs : List Cell} {m : M α} {y : α} (h : (M.wb b cs m).run st = some (y, st', l)) : ∃ cs0 l1, st.boxes b = some cs0 ∧ m.run { st with boxes := upd st.boxes b (some cs) } = some (y, st', l1) := by
  simp only [M.run] at h
  split at h
  · rename_i cs0 hb
    simp only [Option.map_eq_some_iff] at h
    obtain ⟨⟨a1, s1, l1⟩, h1, h2⟩ := h
    simp only [Prod.mk.injEq] at h2
    obtain ⟨rfl, rfl, -⟩ := h2
    exact ⟨cs0, l1, hb, h1⟩
  · cases h
theorem M.nb_run {α : Type} {b : Nat} {cs : List Cell} {m : M α} {y : α} (h : (M.nb b cs m).run st = some (y, st', l)) : st.boxes b = none ∧ ∃ l1, m.run { st with boxes := upd st.boxes b (some cs) } = some (y, st', l1) := by
  simp only [M.run] at h
  split at h
  · cases h
  · rename_i hb
    simp only [Option.map_eq_some_iff] at h
    obtain ⟨⟨a1, s1, l1⟩, h1, h2⟩ := h
    simp only [Prod.mk.injEq] at h2
    obtain ⟨rfl, rfl, -⟩ := h2
    exact ⟨hb, l1, h1⟩
theorem M.opt_run {α β : Type} {x : Option β} {f : β → M α} {r : α × St × Log} (h : (M.opt x f).run st = some r) : ∃ y, x = some y ∧ (f y).run st = some r := by
  simp only [M.run, Option.bind_eq_some_iff] at h
  exact h
theorem c1_run {c : Cell} (h : (c1 c).run st = some (v, st', l)) : v = .one c ∧ st' = st := M.ret_run h
theorem rel1 {H : Heap} {c : Cell} {u : Value} (h : RelC H R st θ c u) (h1 : one1 u = true) : RelV H R st θ (.one c) u := ⟨h, .inr h1⟩
theorem relI {H : Heap} {k : IntKind} {n : Int} (h : k.min ≤ n ∧ n ≤ k.max) : RelV H R st θ (.one (.i k n)) (.int k n) := rel1 (by simp [RelC, h]) rfl
theorem relB {H : Heap} {x : Bool} : RelV H R st θ (.one (.b x)) (.bool x) := rel1 (by simp [RelC]) rfl
theorem relS {H : Heap} {x : Bytes} (h : x.length ≤ maxLen) : RelV H R st θ (.one (.s x)) (.string ⟨x.toArray⟩) := rel1 (by simp [RelC, h]) rfl
theorem run_val {s : Sem Value} {u : Value} {w' : World} (h : s.run P w = .ok u w') : (do let x ← s; Pure.pure (Next.value x) : Sem Next).run P w = .ok (.value u) w' := by
  simp [h]
theorem run_unit {s : Sem Unit} {w' : World} (h : s.run P w = .ok () w') : (do s; Pure.pure Next.skip : Sem Next).run P w = .ok .skip w' := by
  simp [h]
theorem eqGuard_int (op : BinOp) (t : TypeId) (x y : Operand) (k k' : IntKind) (m n : Int) : (eqGuard op t x y (.int k m) (.int k' n)).run P w = .ok () w := by
  cases op <;> simp [eqGuard]
theorem eqGuard_str (op : BinOp) (t : TypeId) (x y : Operand) (m n : ByteArray) : (eqGuard op t x y (.string m) (.string n)).run P w = .ok () w := by
  cases op <;> simp [eqGuard]
theorem eqGuard_bool (op : BinOp) (t : TypeId) (x y : Operand) (m n : Bool) : (eqGuard op t x y (.bool m) (.bool n)).run P w = .ok () w := by
  cases op <;> simp [eqGuard]
theorem exec_bin {op : BinOp} {t : TypeId} {x y : Operand} {t' : TypeId} (ho : o.op = .binOp op t x y t') {u : Value} (hg : (eqGuard op t x y (a.eval x) (a.eval y)).run P w = .ok () w)
    (hb : (binOp op t (a.eval x) (a.eval y)).run P w = .ok u w) : (execOp a.eval o).run P w = .ok (.value u) w := by
  simp only [execOp, ho]
  refine run_val ?_
  simp [hg, hb]
end
end Go.Ev
namespace Go.Ev
theorem tmod_range (k : IntKind) (x y : Int) (hx : k.min ≤ x ∧ x ≤ k.max) : k.min ≤ x.tmod y ∧ x.tmod y ≤ k.max := by
  have h0 : k.min ≤ 0 ∧ 0 ≤ k.max := by cases k <;> decide
  by_cases hn : 0 ≤ x
  · have h1 := Int.tmod_nonneg y hn
    have h2 : x.tmod y ≤ x := by
      have := Int.natAbs_tmod x y
      have := Nat.mod_le x.natAbs y.natAbs
      omega
    omega
  · have h2 : (x.tmod y).natAbs ≤ x.natAbs := by
      rw [Int.natAbs_tmod]; exact Nat.mod_le _ _
    have h3 : x.tmod y ≤ 0 := by
      have e : x.tmod y = -((-x).tmod y) := by rw [Int.neg_tmod]; omega
      have := Int.tmod_nonneg y (show 0 ≤ -x by omega)
      omega
    omega
theorem fdiv_range (k : IntKind) (x : Int) (n : Nat) (hx : k.min ≤ x ∧ x ≤ k.max) : k.min ≤ x.fdiv (2 ^ n) ∧ x.fdiv (2 ^ n) ≤ k.max := by
  have h0 : k.min ≤ 0 ∧ 0 ≤ k.max := by cases k <;> decide
  have hp : (0 : Int) < 2 ^ n := Int.pow_pos (by omega)
  rw [Int.fdiv_eq_ediv_of_nonneg _ (Int.le_of_lt hp)]
  by_cases hn : 0 ≤ x
  · have h1 : 0 ≤ x / 2 ^ n := Int.ediv_nonneg hn (Int.le_of_lt hp)
    have h2 : x / 2 ^ n ≤ x := Int.ediv_le_self _ hn
    omega
  · have h1 : x / 2 ^ n < 0 := Int.ediv_neg_of_neg_of_pos (by omega) hp
    have h2 : x ≤ x / 2 ^ n := by
      have h3 := Int.mul_ediv_add_emod x (2 ^ n)
      have h4 := Int.emod_nonneg x (Int.ne_of_gt hp)
      have h6 := Int.emod_lt_of_pos x hp
      have h5 : (2 ^ n - 1) * (x / 2 ^ n) ≤ (2 ^ n - 1) * (-1) := Int.mul_le_mul_of_nonneg_left (by omega) (by omega)
      rw [Int.sub_mul] at h5
      omega
    omega
theorem bits_range (op : BinOp) (k : IntKind) (x y : Int) : k.min ≤ intBitsV op k x y ∧ intBitsV op k x y ≤ k.max := by
  unfold intBitsV
  split <;> exact wrap_range _ _
section
variable {P : Program} {T : TypeId → Option TyI} {w0 w : World} {F R : Nat → Prop} {st st' : St} {θ : Asg} {a : Act} {o : Oper} {v : TV} {l : Log}
theorem equal_bool {t : TypeId} (hu : P.underlying t = some .bool) (m n : Bool) : (Op.equal t (.bool m) (.bool n)).run P w = .ok (m == n) w := by
  have h : ∀ d, (Op.equalIn (d + 1) t (.bool m) (.bool n)).run P w = .ok (m == n) w := fun d => by simp [Op.equalIn, run_underlying hu]
  exact h 9999
theorem equal_if {t : TypeId} {ms : Array (String × TypeId)} (hu : P.underlying t = some (.interface ms)) : (Op.equal t .nilIface .nilIface).run P w = .ok true w ∧
    ∀ tt u, (Op.equal t (.iface tt u) .nilIface).run P w = .ok false w := by
  have h : ∀ d, (Op.equalIn (d + 1) t .nilIface .nilIface).run P w = .ok true w := fun d => by simp [Op.equalIn, run_underlying hu]
  have k : ∀ d tt u, (Op.equalIn (d + 1) t (.iface tt u) .nilIface).run P w = .ok false w := fun d tt u => by simp [Op.equalIn, run_underlying hu]
  exact ⟨h 9999, k 9999⟩
theorem equal_sl {t e : TypeId} (hu : P.underlying t = some (.slice e)) : (Op.equal t (.slice none 0 0) (.slice none 0 0)).run P w = .ok true w ∧
    ∀ ad m n, (Op.equal t (.slice (some ad) m n) (.slice none 0 0)).run P w = .ok false w := by
  have h : ∀ d, (Op.equalIn (d + 1) t (.slice none 0 0) (.slice none 0 0)).run P w = .ok true w := fun d => by simp [Op.equalIn, run_underlying hu]
  have k : ∀ d ad m n, (Op.equalIn (d + 1) t (.slice (some ad) m n) (.slice none 0 0)).run P w = .ok false w := fun d ad m n => by simp [Op.equalIn, run_underlying hu]
  exact ⟨h 9999, k 9999⟩
theorem uB_ok (hok : Ok P T) {t : TypeId} (h : uB (T t) = true) : P.underlying t = some .bool := by
  unfold uB at h
  split at h
  · rename_i e
    exact (hok.tys t _ e).u
  · cases h
theorem uF_ok (hok : Ok P T) {t : TypeId} (h : uF (T t) = true) : ∃ ms, P.underlying t = some (.interface ms) := by
  unfold uF at h
  split at h
  · rename_i e
    exact (hok.tys t _ e).u
  · cases h
theorem uS_ok (hok : Ok P T) {t : TypeId} (h : uS (T t) = true) : ∃ e, P.underlying t = some (.slice e) := by
  unfold uS at h
  split at h
  · rename_i e
    exact ⟨_, (hok.tys t _ e).u⟩
  · cases h
theorem op_er (hok : Ok P T) (hI : Inv w0 F R st θ w) (hT : Tm (hp w) R st θ a) {op : BinOp} {t : TypeId} {x y : Operand} {t' : TypeId} (ho : o.op = .binOp op t x y t') (hg : uF (T t) = true)
    {m r : Bool} (e1 : evalSt st x = .one (.er m)) (e2 : evalSt st y = .one (.er false)) (hop : (op = .eql ∧ r = !m) ∨ (op = .neq ∧ r = m)) (hy : ∃ v, y = .const v) : Done P w0 F R st θ w o a (.one (.b r)) st := by
  obtain ⟨ms, hu⟩ := uF_ok hok hg
  have r1 := (eval_one hT e1 (by simp)).1
  have r2 := (eval_one hT e2 (by simp)).1
  simp only [RelC] at r1 r2
  have r2 : a.eval y = .nilIface := by rcases r2 with r2 | r2 <;> simp_all
  obtain ⟨c, rfl⟩ := hy
  rcases r1 with ⟨rfl, r1⟩ | ⟨rfl, tt, u, r1⟩
  · rcases hop with ⟨rfl, rfl⟩ | ⟨rfl, rfl⟩
    · exact Done.pure hI (exec_bin ho (by rw [r1, r2]; simp [eqGuard]) (by rw [r1, r2]; simp [binOp, (equal_if hu).1])) relB
    · exact Done.pure hI (exec_bin ho (by rw [r1, r2]; simp [eqGuard]) (by rw [r1, r2]; simp [binOp, (equal_if hu).1])) relB
  · rcases hop with ⟨rfl, rfl⟩ | ⟨rfl, rfl⟩
    · exact Done.pure hI (exec_bin ho (by rw [r1, r2]; simp [eqGuard]) (by rw [r1, r2]; simp [binOp, (equal_if hu).2])) relB
    · exact Done.pure hI (exec_bin ho (by rw [r1, r2]; simp [eqGuard]) (by rw [r1, r2]; simp [binOp, (equal_if hu).2])) relB
theorem op_agg (hok : Ok P T) (hT : Tm (hp w) R st θ a) {t : TypeId} {x y : Operand} (hg : uE (T t) = true) {xs ys : List Cell} {bs : List Bool}
    (e1 : evalSt st x = .agg xs) (e2 : evalSt st y = .agg ys) (hb : eqCells xs ys = some bs) :
    ∃ vs us, a.eval x = .agg vs ∧ a.eval y = .agg us ∧ (∀ op x y, (eqGuard op t x y (.agg vs) (.agg us)).run P w = .ok () w) ∧ (Op.equal t (.agg vs) (.agg us)).run P w = .ok (andL bs) w := by
  have r1 := eval_rel hT x
  have r2 := eval_rel hT y
  rw [e1] at r1
  rw [e2] at r2
  simp only [RelV] at r1 r2
  obtain ⟨vs, k1, r1⟩ := r1
  obtain ⟨us, k2, r2⟩ := r2
  unfold uE at hg
  split at hg
  · rename_i i e
    have h1 := (hok.tys t i e).eq hg
    exact ⟨vs, us, k1, k2, fun op x y => run_eqGuard_agg w op t x y vs us h1.2.1, h1.2.2 xs ys vs us bs w (hp w) R st θ hb r1 r2⟩
  · cases hg
theorem op_bin (hok : Ok P T) (hI : Inv w0 F R st θ w) (hT : Tm (hp w) R st θ a) {op : BinOp} {t : TypeId} {x y : Operand} {t' : TypeId} (ho : o.op = .binOp op t x y t')
    (h : (binM (T t) (isCo y) op (evalSt st x) (evalSt st y)).run st = some (v, st', l)) : Done P w0 F R st θ w o a v st' := by
  have hint : ∀ {k k' : IntKind} {m n : Int} {c : Cell} {u : Value}, evalSt st x = .one (.i k m) → evalSt st y = .one (.i k' n) → (c1 c).run st = some (v, st', l) →
      ((k.min ≤ m ∧ m ≤ k.max) → (k'.min ≤ n ∧ n ≤ k'.max) → (binOp op t (.int k m) (.int k' n)).run P w = .ok u w ∧ RelV (hp w) R st θ (.one c) u) → Done P w0 F R st θ w o a v st' := by
    intro k k' m n c u h1 h2 h3 h4
    obtain ⟨rfl, rfl⟩ := c1_run h3
    obtain ⟨e1, r1⟩ := eval_int hT h1
    obtain ⟨e2, r2⟩ := eval_int hT h2
    obtain ⟨h5, h6⟩ := h4 r1 r2
    exact Done.pure hI (exec_bin ho (by rw [e1, e2]; exact eqGuard_int _ _ _ _ _ _ _ _) (by rw [e1, e2]; exact h5)) h6
  have hstr : ∀ {m n : Bytes} {c : Cell} {u : Value}, evalSt st x = .one (.s m) → evalSt st y = .one (.s n) → (c1 c).run st = some (v, st', l) →
      ((binOp op t (.string ⟨m.toArray⟩) (.string ⟨n.toArray⟩)).run P w = .ok u w ∧ RelV (hp w) R st θ (.one c) u) → Done P w0 F R st θ w o a v st' := by
    intro m n c u h1 h2 h3 h4
    obtain ⟨rfl, rfl⟩ := c1_run h3
    obtain ⟨e1, r1⟩ := eval_str hT h1
    obtain ⟨e2, r2⟩ := eval_str hT h2
    obtain ⟨h5, h6⟩ := h4
    exact Done.pure hI (exec_bin ho (by rw [e1, e2]; exact eqGuard_str _ _ _ _ _ _) (by rw [e1, e2]; exact h5)) h6
  unfold binM at h
  split at h
  case h_1 => -- shl
    rename_i k m k2 n e1 e2
    obtain ⟨hg, h⟩ := M.gd_run h
    refine hint ‹_› ‹_› h (fun _ _ => ⟨?_, relI (wrap_range _ _)⟩)
    have := of_decide_eq_true hg
    simp [binOp, Op.shift, show ¬ n < 0 from by omega]
  case h_2 => -- shr
    rename_i k m k2 n e1 e2
    obtain ⟨hg, h⟩ := M.gd_run h
    refine hint ‹_› ‹_› h (fun h1 _ => ⟨?_, relI (fdiv_range _ _ _ h1)⟩)
    have := of_decide_eq_true hg
    simp [binOp, Op.shift, show ¬ n < 0 from by omega]
  case h_3 => obtain ⟨hg, h'⟩ := M.gd_run h; clear h; have := of_decide_eq_true hg; subst this; exact hint ‹_› ‹_› h' (fun _ _ => ⟨by simp [binOp, Op.intArith], relI (wrap_range _ _)⟩)
  case h_4 => obtain ⟨hg, h'⟩ := M.gd_run h; clear h; have := of_decide_eq_true hg; subst this; exact hint ‹_› ‹_› h' (fun _ _ => ⟨by simp [binOp, Op.intArith], relI (wrap_range _ _)⟩)
  case h_5 => obtain ⟨hg, h'⟩ := M.gd_run h; clear h; have := of_decide_eq_true hg; subst this; exact hint ‹_› ‹_› h' (fun _ _ => ⟨by simp [binOp, Op.intArith], relI (wrap_range _ _)⟩)
  case h_6 =>
    obtain ⟨hg, h'⟩ := M.gd_run h; clear h; have := of_decide_eq_true hg; subst this
    obtain ⟨hz, h''⟩ := M.gd_run h'
    exact hint ‹_› ‹_› h'' (fun _ _ => ⟨by simp [binOp, Op.intDiv, bne_iff_ne.1 hz], relI (wrap_range _ _)⟩)
  case h_7 =>
    obtain ⟨hg, h'⟩ := M.gd_run h; clear h; have := of_decide_eq_true hg; subst this
    obtain ⟨hz, h''⟩ := M.gd_run h'
    exact hint ‹_› ‹_› h'' (fun h1 _ => ⟨by simp [binOp, Op.intDiv, bne_iff_ne.1 hz], relI (tmod_range _ _ _ h1)⟩)
  case h_8 => obtain ⟨hg, h'⟩ := M.gd_run h; clear h; have := of_decide_eq_true hg; subst this; exact hint ‹_› ‹_› h' (fun _ _ => ⟨by simp [binOp, Op.intBits, intBitsV], relI (bits_range .and _ _ _)⟩)
  case h_9 => obtain ⟨hg, h'⟩ := M.gd_run h; clear h; have := of_decide_eq_true hg; subst this; exact hint ‹_› ‹_› h' (fun _ _ => ⟨by simp [binOp, Op.intBits, intBitsV], relI (bits_range .or _ _ _)⟩)
  case h_10 => obtain ⟨hg, h'⟩ := M.gd_run h; clear h; have := of_decide_eq_true hg; subst this; exact hint ‹_› ‹_› h' (fun _ _ => ⟨by simp [binOp, Op.intBits, intBitsV], relI (bits_range .xor _ _ _)⟩)
  case h_11 => obtain ⟨hg, h'⟩ := M.gd_run h; clear h; have := of_decide_eq_true hg; subst this; exact hint ‹_› ‹_› h' (fun _ _ => ⟨by simp [binOp, Op.intBits, intBitsV], relI (bits_range .andNot _ _ _)⟩)
  case h_12 => obtain ⟨hg, h'⟩ := M.gd_run h; clear h; have := of_decide_eq_true hg; subst this; exact hint ‹_› ‹_› h' (fun _ _ => ⟨by simp [binOp, Op.intCmp], relB⟩)
  case h_13 => obtain ⟨hg, h'⟩ := M.gd_run h; clear h; have := of_decide_eq_true hg; subst this; exact hint ‹_› ‹_› h' (fun _ _ => ⟨by simp [binOp, Op.intCmp], relB⟩)
  case h_14 => obtain ⟨hg, h'⟩ := M.gd_run h; clear h; have := of_decide_eq_true hg; subst this; exact hint ‹_› ‹_› h' (fun _ _ => ⟨by simp [binOp, Op.intCmp], relB⟩)
  case h_15 => obtain ⟨hg, h'⟩ := M.gd_run h; clear h; have := of_decide_eq_true hg; subst this; exact hint ‹_› ‹_› h' (fun _ _ => ⟨by simp [binOp, Op.intCmp], relB⟩)
  case h_16 => obtain ⟨hg, h'⟩ := M.gd_run h; clear h; have := of_decide_eq_true hg; subst this; exact hint ‹_› ‹_› h' (fun _ _ => ⟨by simp [binOp, Op.intCmp], relB⟩)
  case h_17 => obtain ⟨hg, h'⟩ := M.gd_run h; clear h; have := of_decide_eq_true hg; subst this; exact hint ‹_› ‹_› h' (fun _ _ => ⟨by simp [binOp, Op.intCmp], relB⟩)
  case h_18 =>
    obtain ⟨hg, h⟩ := M.gd_run h
    have hg := Nat.le_of_ble_eq_true hg
    simp only [mx] at hg
    refine hstr ‹_› ‹_› h ⟨?_, relS (x := _ ++ _) (by rw [List.length_append]; exact hg)⟩
    have hm : IntKind.i64.max = 9223372036854775807 := by decide
    simp only [binOp, Op.stringOp, hm]
    rw [if_neg]
    · simp only [Sem.run_pure]
      congr 2
    · show ¬ _ > (9223372036854775807 : Int)
      simp only [ByteArray.size]
      simp
      omega
  case h_19 => exact hstr ‹_› ‹_› h ⟨by simp [binOp, Op.stringOp], relB⟩
  case h_20 => exact hstr ‹_› ‹_› h ⟨by simp [binOp, Op.stringOp], relB⟩
  case h_21 => exact hstr ‹_› ‹_› h ⟨by simp [binOp, Op.stringOp], relB⟩
  case h_22 => exact hstr ‹_› ‹_› h ⟨by simp [binOp, Op.stringOp], relB⟩
  case h_23 => exact hstr ‹_› ‹_› h ⟨by simp [binOp, Op.stringOp], relB⟩
  case h_24 => exact hstr ‹_› ‹_› h ⟨by simp [binOp, Op.stringOp], relB⟩
  case h_25 =>
    rename_i m n e1 e2
    obtain ⟨hg, h'⟩ := M.gd_run h
    obtain ⟨rfl, rfl⟩ := c1_run h'
    have hu := uB_ok hok hg
    have e1 := eval_bool hT e1
    have e2 := eval_bool hT e2
    exact Done.pure hI (exec_bin ho (by rw [e1, e2]; exact eqGuard_bool _ _ _ _ _ _) (by rw [e1, e2]; simp [binOp, equal_bool hu])) relB
  case h_26 =>
    rename_i m n e1 e2
    obtain ⟨hg, h'⟩ := M.gd_run h
    obtain ⟨rfl, rfl⟩ := c1_run h'
    have hu := uB_ok hok hg
    have e1 := eval_bool hT e1
    have e2 := eval_bool hT e2
    exact Done.pure hI (exec_bin ho (by rw [e1, e2]; exact eqGuard_bool _ _ _ _ _ _) (by rw [e1, e2]; simp [binOp, equal_bool hu])) relB
  case h_27 =>
    rename_i m e1 e2
    obtain ⟨hg, h'⟩ := M.gd_run h
    obtain ⟨hy, h''⟩ := M.gd_run h'
    obtain ⟨rfl, rfl⟩ := c1_run h''
    exact op_er hok hI hT ho hg e1 e2 (.inl ⟨rfl, rfl⟩) (by cases y <;> simp [isCo] at hy; exact ⟨_, rfl⟩)
  case h_28 =>
    rename_i m e1 e2
    obtain ⟨hg, h'⟩ := M.gd_run h
    obtain ⟨hy, h''⟩ := M.gd_run h'
    obtain ⟨rfl, rfl⟩ := c1_run h''
    exact op_er hok hI hT ho hg e1 e2 (.inr ⟨rfl, rfl⟩) (by cases y <;> simp [isCo] at hy; exact ⟨_, rfl⟩)
  case h_29 =>
    rename_i xs ys e1 e2
    obtain ⟨hg, h'⟩ := M.gd_run h
    clear h
    split at h'
    · rename_i bs hb
      obtain ⟨rfl, rfl⟩ := c1_run h'
      obtain ⟨vs, us, k1, k2, k3, k4⟩ := op_agg hok hT hg e1 e2 hb (w := w) (P := P)
      exact Done.pure hI (exec_bin ho (by rw [k1, k2]; exact k3 _ _ _) (by rw [k1, k2]; simp [binOp, k4])) relB
    · simp [M.run] at h'
  case h_30 =>
    rename_i xs ys e1 e2
    obtain ⟨hg, h'⟩ := M.gd_run h
    clear h
    split at h'
    · rename_i bs hb
      obtain ⟨rfl, rfl⟩ := c1_run h'
      obtain ⟨vs, us, k1, k2, k3, k4⟩ := op_agg hok hT hg e1 e2 hb (w := w) (P := P)
      exact Done.pure hI (exec_bin ho (by rw [k1, k2]; exact k3 _ _ _) (by rw [k1, k2]; simp [binOp, k4])) relB
    · simp [M.run] at h'
  case h_31 =>
    rename_i e1 e2
    obtain ⟨hg, h'⟩ := M.gd_run h
    obtain ⟨rfl, rfl⟩ := c1_run h'
    obtain ⟨e, hu⟩ := uS_ok hok hg
    have r1 := (eval_one hT e1 (by simp)).1
    have r2 := (eval_one hT e2 (by simp)).1
    simp only [RelC] at r1 r2
    exact Done.pure hI (exec_bin ho (by rw [r1, r2]; simp [eqGuard]) (by rw [r1, r2]; simp [binOp, (equal_sl hu).1])) relB
  case h_32 =>
    rename_i c x e1 e2
    obtain ⟨hg, h'⟩ := M.gd_run h
    obtain ⟨rfl, rfl⟩ := c1_run h'
    obtain ⟨e, hu⟩ := uS_ok hok hg
    have r1 := (eval_one hT e1 (by simp)).1
    have r2 := (eval_one hT e2 (by simp)).1
    simp only [RelC] at r1 r2
    obtain ⟨-, -, ad, m, n, r1⟩ := r1
    exact Done.pure hI (exec_bin ho (by rw [r1, r2]; simp [eqGuard]) (by rw [r1, r2]; simp [binOp, (equal_sl hu).2])) relB
  case h_33 => simp [M.run] at h
end
end Go.Ev
namespace Go.Ev
section
variable {H : Heap} {R : Nat → Prop} {st : St} {θ : Asg} {own : Bool}
theorem RelCs.append : ∀ {cs ds : List Cell} {vs us : List Value}, RelCs H R st θ cs vs → RelCs H R st θ ds us → RelCs H R st θ (cs ++ ds) (vs ++ us)
  | [], ds, vs, us, h, k => by simp only [RelCs] at h; subst h; simpa using k
  | c :: cs, ds, vs, us, h, k => by
    simp only [RelCs] at h
    obtain ⟨v, vs', rfl, h1, h2⟩ := h
    simp only [List.cons_append, RelCs]
    exact ⟨v, vs' ++ us, rfl, h1, RelCs.append h2 k⟩
theorem RelCs.take : ∀ {cs : List Cell} {vs : List Value} (n : Nat), RelCs H R st θ cs vs → RelCs H R st θ (cs.take n) (vs.take n)
  | [], vs, n, h => by simp only [RelCs] at h; subst h; simp [RelCs]
  | c :: cs, vs, 0, h => by simp [RelCs]
  | c :: cs, vs, n + 1, h => by
    simp only [RelCs] at h
    obtain ⟨v, vs', rfl, h1, h2⟩ := h
    simp only [List.take_succ_cons, RelCs]
    exact ⟨v, _, rfl, h1, RelCs.take n h2⟩
theorem RelCs.drop : ∀ {cs : List Cell} {vs : List Value} (n : Nat), RelCs H R st θ cs vs → RelCs H R st θ (cs.drop n) (vs.drop n)
  | [], vs, n, h => by simp only [RelCs] at h; subst h; simp [RelCs]
  | c :: cs, vs, 0, h => by simpa using h
  | c :: cs, vs, n + 1, h => by
    simp only [RelCs] at h
    obtain ⟨v, vs', rfl, h1, h2⟩ := h
    simpa only [List.drop_succ_cons] using RelCs.drop n h2
theorem RelCs.one : ∀ {cs : List Cell} {vs : List Value}, RelCs H R st θ cs vs → ∀ v ∈ vs, one1 v = true
  | [], vs, h, v, hv => by simp only [RelCs] at h; simp [h] at hv
  | c :: cs, vs, h, v, hv => by
    simp only [RelCs] at h
    obtain ⟨u, vs', rfl, h1, h2⟩ := h
    rcases List.mem_cons.1 hv with rfl | hv
    · exact h1.2
    · exact RelCs.one h2 v hv
theorem mkTV_rel {agg : Bool} {cs : List Cell} {vs : List Value} (h : RelCs H R st θ cs vs) {u : Value} (hu : if agg = true then u = .agg vs.toArray else ∃ v, vs = [v] ∧ u = v) : RelV H R st θ (mkTV agg cs) u := by
  cases agg with
  | true =>
    simp only [if_true] at hu
    simp only [mkTV, RelV]
    exact ⟨_, hu, by simpa using h⟩
  | false =>
    simp only [Bool.false_eq_true, if_false] at hu
    obtain ⟨v, rfl, rfl⟩ := hu
    have hl := h.length
    match cs, hl with
    | [c], _ =>
      simp only [RelCs] at h
      obtain ⟨v, vs', e, h1, -⟩ := h
      cases e
      simp only [mkTV, RelV]
      exact ⟨h1.1, .inr h1.2⟩
theorem zero_rel : ∀ {cs : List Cell} {vs : List Value}, zerosOk cs vs = true → RelCs H R st θ cs vs
  | [], [], _ => by simp [RelCs]
  | [], _ :: _, h => by simp [zerosOk] at h
  | _ :: _, [], h => by simp [zerosOk] at h
  | c :: cs, v :: vs, h => by
    simp only [zerosOk, Bool.and_eq_true] at h
    simp only [RelCs]
    refine ⟨v, vs, rfl, ?_, zero_rel h.2⟩
    have h1 := h.1
    unfold zeroOk at h1
    split at h1 <;> simp_all [RelC, one1, maxLen]
    rename_i k n k' m
    obtain ⟨rfl, rfl, rfl⟩ := h1
    cases k <;> decide
theorem unL_rel {R' : Nat → Prop} {f : Nat → (c : CT) → Interp c → Cell} : ∀ {ts : CTs} {e : InterpL ts} {vs : List Value} {fps : List Nat} (j : Nat), RelDs H R' own (encL ts e) vs fps →
    (∀ (m : Nat) (c : CT) (x : Interp c) (v : Value) (fp : List Nat), isSl c = true → (encL ts e)[m]? = some (enc c x) → vs[m]? = some v → RelD H R' own (enc c x) v fp → (∀ b ∈ fp, b ∈ fps) → RelC H R st θ (f (j + m) c x) v) →
    RelCs H R st θ (unL f j ts e) vs
  | .one c, e, vs, fps, j, h, hf => by
    simp only [encL, RelDs] at h
    obtain ⟨v, vs', f1, f2, rfl, rfl, h1, rfl, rfl⟩ := h
    simp only [unL, RelCs]
    refine ⟨v, [], rfl, ⟨?_, h1.one1⟩, rfl⟩
    cases c with
    | bool => simp only [enc, RelD] at h1; simp only [unC, RelC]; exact h1.1
    | int k => simp only [enc, RelD] at h1; simp only [unC, RelC]; exact ⟨h1.1, h1.2.1⟩
    | str => simp only [enc, RelD] at h1; simp only [unC, RelC]; exact ⟨h1.1, h1.2.1⟩
    | sl ts => exact hf 0 (.sl ts) e v f1 rfl (by simp [encL]) rfl h1 (by simp)
    | tree fs => exact hf 0 (.tree fs) e v f1 rfl (by simp [encL]) rfl h1 (by simp)
  | .cons c cs, e, vs, fps, j, h, hf => by
    simp only [encL, RelDs] at h
    obtain ⟨v, vs', f1, f2, rfl, rfl, h1, h2⟩ := h
    simp only [unL, RelCs]
    refine ⟨v, vs', rfl, ⟨?_, h1.one1⟩, unL_rel (j + 1) h2 (fun m c' x v' fp k1 k2 k3 k4 k5 => ?_)⟩
    · cases c with
      | bool => simp only [enc, RelD] at h1; simp only [unC, RelC]; exact h1.1
      | int k => simp only [enc, RelD] at h1; simp only [unC, RelC]; exact ⟨h1.1, h1.2.1⟩
      | str => simp only [enc, RelD] at h1; simp only [unC, RelC]; exact ⟨h1.1, h1.2.1⟩
      | sl ts => exact hf 0 (.sl ts) e.1 v f1 rfl (by simp [encL]) rfl h1 (fun b hb => by simp [hb])
      | tree fs => exact hf 0 (.tree fs) e.1 v f1 rfl (by simp [encL]) rfl h1 (fun b hb => by simp [hb])
    · have := hf (m + 1) c' x v' fp k1 (by simpa [encL] using k2) (by simpa using k3) k4 (fun b hb => by simp [k5 b hb])
      rwa [Nat.add_assoc, Nat.add_comm 1 m]
end
section
variable {P : Program} {T : TypeId → Option TyI} {w0 w : World} {F R : Nat → Prop} {st st' : St} {θ : Asg} {a : Act} {o : Oper} {v : TV} {l : Log}
def aggOf (i : TyI) : Bool := match i.u with | .struct _ => true | _ => false
theorem isAgg_run {t : TypeId} {i : TyI} (h : TyOk P T t i) : (isAgg t).run P w = .ok (aggOf i) w := by
  have hu := h.u
  unfold aggOf
  cases e : i.u <;> rw [e] at hu <;> simp only [UOk] at hu
  case struct fs =>
    obtain ⟨f, hu, -⟩ := hu
    simp [isAgg, run_underlying hu]
  case ptr => obtain ⟨x, hu⟩ := hu; simp [isAgg, run_underlying hu]
  case func => obtain ⟨x, y, z, hu⟩ := hu; simp [isAgg, run_underlying hu]
  case iface => obtain ⟨x, hu⟩ := hu; simp [isAgg, run_underlying hu]
  all_goals simp [isAgg, run_underlying hu]
theorem sizeOf_run {t : TypeId} {i : TyI} (h : TyOk P T t i) : (sizeOf t).run P w = .ok i.size w := by
  obtain ⟨inf, z, h1, h2, -⟩ := h.info
  simp [sizeOf, typeInfo, h1, h2]
theorem zero_run {t : TypeId} {i : TyI} (h : TyOk P T t i) : ∃ z, (zeroValue t).run P w = .ok z w ∧ zerosOk i.zero z.cells.toList = true ∧ (if aggOf i = true then ∃ cs, z = .agg cs else one1 z = true) := by
  obtain ⟨inf, z, h1, h2, -, h3, h4, h5⟩ := h.info
  refine ⟨z, by simp [zeroValue, typeInfo, h1, h3], h4, ?_⟩
  unfold aggOf
  cases e : i.u <;> simp_all
theorem loadVar_run {t : TypeId} {i : TyI} (h : TyOk P T t i) {g off : Nat} {cur : Array Value} {ty : TypeId} {frz : Nat × Nat} (hg : hp w g = some (.cells cur ty frz)) (hn : off + i.size ≤ cur.size) :
    ∃ u, (loadVar t ⟨g, off, none⟩).run P w = .ok u w ∧ (if aggOf i = true then u = .agg ((cur.toList.drop off).take i.size).toArray else ∃ v, (cur.toList.drop off).take i.size = [v] ∧ u = v) := by
  cases ha : aggOf i with
  | true =>
    refine ⟨.agg ((cur.toList.drop off).take i.size).toArray, ?_, by simp⟩
    simp only [loadVar, Sem.run_bind, isAgg_run h, Result.andThen_ok, ha, if_true, sizeOf_run h, mem_load hg hn]
    simp
  | false =>
    have h1 : i.size = 1 := by
      have := h.one
      unfold aggOf at ha
      cases e : i.u <;> simp_all
    rw [h1] at hn ⊢
    have hlt : off < cur.toList.length := by simp; omega
    have hv : cur.toList[off]? = some cur.toList[off] := List.getElem?_eq_getElem hlt
    refine ⟨cur.toList[off], ?_, ?_⟩
    · simp only [loadVar, Sem.run_bind, isAgg_run h, Result.andThen_ok, ha, Bool.false_eq_true, if_false, mem_load1 hg hv]
    · simp only [Bool.false_eq_true, if_false]
      refine ⟨_, ?_, rfl⟩
      rw [List.drop_eq_getElem_cons hlt]
      simp
theorem storeVar_run {t : TypeId} {i : TyI} (h : TyOk P T t i) {g off : Nat} {cur : Array Value} {ty : TypeId} {frz : Nat × Nat} {u : Value} (hg : hp w g = some (.cells cur ty frz)) (hz : unfz cur.size frz) (hs : u.cells.size = i.size) (hn : off + i.size ≤ cur.size)
    (h1 : ∀ v ∈ u.cells.toList, one1 v = true) :
    (storeVar t ⟨g, off, none⟩ u).run P w = .ok () (w.setRow g (cur.toList.take off ++ (u.cells.toList ++ cur.toList.drop (off + i.size))).toArray) := by
  have hm := mem_store (P := P) (g := g) (o := off) (vs := u.cells.toList) (i := 0) (w := w) hg hz (by simp; omega) h1
  simp only [Nat.add_zero, Array.length_toList, hs] at hm
  simp only [storeVar, Sem.run_bind, sizeOf_run h, Result.andThen_ok, hs, ne_eq, not_true_eq_false, if_false]
  exact hm
theorem op_load (hok : Ok P T) (hI : Inv w0 F R st θ w) (hT : Tm (hp w) R st θ a) {t : TypeId} {x : Operand} (ho : o.op = .load t x) {i : TyI} (hi : T t = some i)
    (h : (M.tv1 (evalSt st x) (ldM (aggOf i) i.size)).run st = some (v, st', l)) : Done P w0 F R st θ w o a v st' := by
  have hty := hok.tys t i hi
  have fin : ∀ {g off : Nat} {cur : Array Value} {ty : TypeId} {frz : Nat × Nat} {cs : List Cell}, a.eval x = .pointer (some ⟨g, off, none⟩) → hp w g = some (.cells cur ty frz) → off + i.size ≤ cur.size →
      RelCs (hp w) R st θ cs ((cur.toList.drop off).take i.size) → v = mkTV (aggOf i) cs → st' = st → Done P w0 F R st θ w o a v st' := by
    intro g off cur ty frz cs e1 e2 e3 e4 e5 e6
    subst e5 e6
    obtain ⟨u, k1, k2⟩ := loadVar_run (P := P) hty e2 e3
    refine Done.pure hI (u := u) ?_ (mkTV_rel e4 k2)
    simp only [execOp, ho]
    refine run_val ?_
    simp [Instr.loadAt, Instr.sureAddr, e1, k1]
  cases ep : evalSt st x with
  | agg _ => rw [ep] at h; simp [M.tv1, M.run] at h
  | tup _ => rw [ep] at h; simp [M.tv1, M.run] at h
  | one p =>
    rw [ep] at h
    simp only [M.tv1] at h
    cases p <;> simp only [ldM] at h
    case pb b off =>
      obtain ⟨cs, l1, hb, h⟩ := M.rb_run h
      obtain ⟨hg, h⟩ := M.gd_run h
      have hrr := M.ret_run h
      have hg := Nat.le_of_ble_eq_true hg
      have r := (eval_one hT ep (by simp)).1
      simp only [RelC] at r
      obtain ⟨arr, ty, frz, k1, k2, k3⟩ := hI.boxes b cs hb
      have hl := k3.length
      exact fin r.2 k1 (by simp at hl; omega) ((k3.drop off).take i.size) hrr.1 hrr.2
    case pe k ver ix off =>
      obtain ⟨l1, h⟩ := M.ro_run h
      cases hd : (st.objs k).dat with
      | none => simp [hd, M.run] at h
      | some d =>
        simp only [hd] at h
        obtain ⟨hv, h⟩ := M.gd_run h
        obtain ⟨e, he, h⟩ := M.opt_run h
        obtain ⟨hg, h⟩ := M.gd_run h
        have hrr := M.ret_run h
        have hg := Nat.le_of_ble_eq_true hg
        have hv := Nat.eq_of_beq_eq_true hv
        have r := (eval_one hT ep (by simp)).1
        simp only [RelC] at r
        obtain ⟨g, len, cap, k1, k2, k3⟩ := r.2.2 hv d hd
        obtain ⟨q1, q2, q3⟩ := hI.objs k d hd
        have hsh := q2.share (R' := fun b => b ∈ θ.fp k) (fun b hb => hb)
        rw [k1] at hsh
        obtain ⟨g', off', e1, g2, o2, cur, ty, frz, e2, k4, k5, k6, k7⟩ := hsh.elem q1 he
        simp only [Option.some.injEq, Addr.mk.injEq] at e1
        obtain ⟨rfl, rfl, -⟩ := e1
        simp only [Nat.zero_add, Nat.add_zero, Value.pointer.injEq, Option.some.injEq, Addr.mk.injEq, and_true] at e2
        obtain ⟨rfl, rfl⟩ := e2
        have hcs := unL_rel (st := st) (θ := θ) (f := gsC k (st.objs k).ver (st.objs k).wv ix) (R := R) 0 k7 (fun m c x v fp h1 h2 h3 h4 h5 => by
          simp only [gsC, RelC]
          have : fp = [] := List.eq_nil_iff_forall_not_mem.2 fun b hb => by simpa using h5 b hb
          subst this
          refine ⟨h1, by omega, fun _ => ⟨by omega, fun _ d' hd' => ⟨h4, fun i j hij => ?_⟩⟩⟩
          rw [hd] at hd'
          cases hd'
          simp only [Option.some.injEq, Prod.mk.injEq] at hij
          obtain ⟨rfl, rfl⟩ := hij
          refine ⟨e, g, len, cap, cur, ty, frz, he, by simpa using h2, k1, k4, k5, ?_⟩
          rw [List.getElem?_take] at h3
          split at h3
          · rw [List.getElem?_drop] at h3
            simpa using h3
          · cases h3)
        have := (hcs.drop off).take i.size
        refine fin k3 k5 (by omega) ?_ hrr.1 hrr.2
        rw [List.drop_take, List.take_take, List.drop_drop, Nat.min_eq_left (by omega)] at this
        exact this
    case pr ts e off =>
      obtain ⟨hg, h⟩ := M.gd_run h
      have hrr := M.ret_run h
      have hg := Nat.le_of_ble_eq_true hg
      have r := (eval_one hT ep (by simp)).1
      simp only [RelC] at r
      obtain ⟨g, o, cur, ty, frz, k1, k2, k3, k4, k5⟩ := r
      have hcs := unL_rel (st := st) (θ := θ) (f := shC) (R := R) 0 k5 (fun m c x v fp h1 h2 h3 h4 h5 => by
        simp only [shC, RelC]
        have : fp = [] := List.eq_nil_iff_forall_not_mem.2 fun b hb => by simpa using h5 b hb
        subst this
        exact ⟨h1, h4⟩)
      have := (hcs.drop off).take i.size
      refine fin k1 k3 (by omega) ?_ hrr.1 hrr.2
      rw [List.drop_take, List.take_take, List.drop_drop, Nat.min_eq_left (by omega)] at this
      exact this
    case pg k ver wv ts e off =>
      obtain ⟨l1, h⟩ := M.ro_run h
      cases hd : (st.objs k).dat with
      | none => simp [hd, M.run] at h
      | some d =>
        simp only [hd] at h
        obtain ⟨hv, h⟩ := M.gd_run h
        obtain ⟨hw, h⟩ := M.gd_run h
        obtain ⟨hg, h⟩ := M.gd_run h
        have hrr := M.ret_run h
        have hg := Nat.le_of_ble_eq_true hg
        have hv := Nat.eq_of_beq_eq_true hv
        have hw := Nat.eq_of_beq_eq_true hw
        have r := (eval_one hT ep (by simp)).1
        simp only [RelC] at r
        obtain ⟨g, o, cur, ty, frz, k1, k2, k3, k4, k5⟩ := (r.2.2 hv).2 hw (by simp [hd])
        have hcs := unL_rel (st := st) (θ := θ) (f := guC k ver wv) (R := R) (H := hp w) 0 k5 (fun m c x v fp h1 h2 h3 h4 h5 => by
          simp only [guC, RelC]
          have : fp = [] := List.eq_nil_iff_forall_not_mem.2 fun b hb => by simpa using h5 b hb
          subst this
          exact ⟨h1, by omega, fun _ => ⟨by omega, fun _ d' hd' => ⟨h4, by simp⟩⟩⟩)
        have := (hcs.drop off).take i.size
        refine fin k1 k3 (by omega) ?_ hrr.1 hrr.2
        rw [List.drop_take, List.take_take, List.drop_drop, Nat.min_eq_left (by omega)] at this
        exact this
    all_goals simp [M.run] at h
end
end Go.Ev
namespace Go.Ev
section
variable {P : Program} {T : TypeId → Option TyI} {w0 w : World} {F R : Nat → Prop} {st st' : St} {θ : Asg} {a : Act} {o : Oper} {v : TV} {l : Log}
theorem op_move (hI : Inv w0 F R st θ w) (hT : Tm (hp w) R st θ a) {x : Operand} (ho : o.op = .move x ∨ o.op = .assign x)
    (h : (M.ret (evalSt st x)).run st = some (v, st', l)) : Done P w0 F R st θ w o a v st' := by
  obtain ⟨rfl, rfl⟩ := M.ret_run h
  exact Done.pure hI (u := a.eval x) (by rcases ho with ho | ho <;> simp [execOp, ho]) (eval_rel hT x)
theorem op_pick (hI : Inv w0 F R st θ w) (hT : Tm (hp w) R st θ a) {c x y : Operand} (ho : o.op = .pick c x y) {b : Bool} (hc : evalSt st c = .one (.b b))
    (h : (M.br b (.ret (evalSt st x)) (.ret (evalSt st y))).run st = some (v, st', l)) : Done P w0 F R st θ w o a v st' := by
  have hc' := eval_bool hT hc
  cases b <;> simp only [M.run] at h <;> obtain ⟨rfl, rfl⟩ := M.ret_run (by simpa only [M.run] using h)
  · exact Done.pure hI (u := a.eval y) (by simp [execOp, ho, hc', asBool]) (eval_rel hT y)
  · exact Done.pure hI (u := a.eval x) (by simp [execOp, ho, hc', asBool]) (eval_rel hT x)
theorem newVar_run (t : TypeId) (u : Value) : (newVar t u).run P w = .ok ⟨w.heap.size, 0, none⟩ (w.alloc (.cells u.cells t)) := by
  simp [newVar, newRow]
theorem box_done (hI : Inv w0 F R st θ w) {b : Nat} {cs : List Cell} {t : TypeId} {u : Value} (hr : RelCs (hp w) R st θ cs u.cells.toList)
    (he : (execOp a.eval o).run P w = .ok (.value (.pointer (some ⟨w.heap.size, 0, none⟩))) (w.alloc (.cells u.cells t)))
    (h : (M.nb b cs (c1 (.pb b 0))).run st = some (v, st', l)) : Done P w0 F R st θ w o a v st' := by
  obtain ⟨hb, l1, h⟩ := M.nb_run h
  obtain ⟨rfl, rfl⟩ := c1_run h
  obtain ⟨h1, h2⟩ := hI.newBox hb (ty := t) hr
  refine ⟨_, _, _, .inl he, h1, h2, rel1 ?_ rfl⟩
  simp [RelC, upd_same]
theorem op_alloc (hok : Ok P T) (hI : Inv w0 F R st θ w) {t : TypeId} (ho : o.op = .alloc t) {i : TyI} (hi : T t = some i) {b : Nat}
    (h : (M.nb b i.zero (c1 (.pb b 0))).run st = some (v, st', l)) : Done P w0 F R st θ w o a v st' := by
  obtain ⟨z, h1, h2, -⟩ := zero_run (w := w) (hok.tys t i hi)
  refine box_done (u := z) (t := t) hI (zero_rel h2) ?_ h
  simp only [execOp, ho]
  refine run_val ?_
  simp [Instr.alloc, h1, newVar_run]
theorem cellsM_run {α : Type} {x : TV} {k : List Cell → M α} {r : α × St × Log} (h : (cellsM x k).run st = some r) :
    ∃ cs, (k cs).run st = some r ∧ ∀ (H : Heap) (u : Value), RelV H R st θ x u → RelCs H R st θ cs u.cells.toList := by
  unfold cellsM at h
  split at h
  · simp [M.run] at h
  · rename_i c hc
    refine ⟨_, h, fun H u hr => ?_⟩
    simp only [RelV] at hr
    have h1 : one1 u = true := hr.2.resolve_left (fun e => hc (by rw [e]))
    have : u.cells.toList = [u] := by cases u <;> simp_all [one1, Value.cells]
    rw [this]
    simp only [RelCs]
    exact ⟨u, [], rfl, ⟨hr.1, h1⟩, rfl⟩
  · refine ⟨_, h, fun H u hr => ?_⟩
    simp only [RelV] at hr
    obtain ⟨arr, rfl, hr⟩ := hr
    exact hr
  · simp [M.run] at h
theorem op_box (hI : Inv w0 F R st θ w) (hT : Tm (hp w) R st θ a) {t : TypeId} {x : Operand} (ho : o.op = .box t x) {n b : Nat}
    (h : (cellsM (evalSt st x) fun cs => .gd (Nat.beq cs.length n) (.nb b cs (c1 (.pb b 0)))).run st = some (v, st', l)) : Done P w0 F R st θ w o a v st' := by
  obtain ⟨cs, h, hr⟩ := cellsM_run (R := R) (θ := θ) h
  obtain ⟨-, h⟩ := M.gd_run h
  refine box_done (u := a.eval x) (t := t) hI (hr _ _ (eval_rel hT x)) ?_ h
  simp only [execOp, ho]
  refine run_val ?_
  simp [Instr.box, newVar_run]
theorem op_nilCheck (hI : Inv w0 F R st θ w) (hT : Tm (hp w) R st θ a) {x : Operand} (ho : o.op = .nilCheck x) {c : Cell} (hx : evalSt st x = .one c)
    (hc : match c with | .pb _ _ | .pe _ _ _ _ | .pr _ _ _ | .pg _ _ _ _ _ _ | .fn _ _ _ => True | _ => False)
    (h : (c1 c).run st = some (v, st', l)) : Done P w0 F R st θ w o a v st' := by
  obtain ⟨rfl, rfl⟩ := c1_run h
  have hr := eval_rel hT x
  rw [hx] at hr
  refine Done.pure hI (u := a.eval x) ?_ hr
  simp only [RelV] at hr
  have hr := hr.1
  cases c <;> simp only at hc <;> simp only [RelC] at hr
  case pb b off => simp [execOp, ho, hr.2]
  case pe k ver ix off => obtain ⟨⟨g, o, e⟩, -⟩ := hr; simp [execOp, ho, e]
  case pr ts e off => obtain ⟨g, o, cur, ty, frz, e, -⟩ := hr; simp [execOp, ho, e]
  case pg k ver wv ts e off => obtain ⟨⟨g, o, e⟩, -⟩ := hr; simp [execOp, ho, e]
  case fn f p q => obtain ⟨va, vb, e, -⟩ := hr; simp [execOp, ho, e]
theorem op_not (hI : Inv w0 F R st θ w) (hT : Tm (hp w) R st θ a) {t : TypeId} {x : Operand} (ho : o.op = .unOp .not t x) {b : Bool} (hx : evalSt st x = .one (.b b))
    (h : (c1 (.b (!b))).run st = some (v, st', l)) : Done P w0 F R st θ w o a v st' := by
  obtain ⟨rfl, rfl⟩ := c1_run h
  refine Done.pure hI (u := .bool (!b)) ?_ relB
  simp only [execOp, ho]
  refine run_val ?_
  simp [Op.unary, eval_bool hT hx]
theorem op_neg (hI : Inv w0 F R st θ w) (hT : Tm (hp w) R st θ a) {t : TypeId} {x : Operand} (ho : o.op = .unOp .neg t x) {k : IntKind} {n : Int} (hx : evalSt st x = .one (.i k n))
    (h : (c1 (.i k (k.wrap (0 - n)))).run st = some (v, st', l)) : Done P w0 F R st θ w o a v st' := by
  obtain ⟨rfl, rfl⟩ := c1_run h
  refine Done.pure hI (u := .int k (k.wrap (0 - n))) ?_ (relI (wrap_range _ _))
  simp only [execOp, ho]
  refine run_val ?_
  simp [Op.unary, (eval_int hT hx).1, Op.intArith]
theorem uStr_ok (hok : Ok P T) {t : TypeId} (h : uStr (T t) = true) : P.underlying t = some .string := by
  unfold uStr at h
  split at h
  · rename_i e
    exact (hok.tys t _ e).u
  · cases h
theorem ctOf_ok (hok : Ok P T) {t : TypeId} {c : CT} (h : ctOf T t = some c) : isSl c = true ∧ ∃ e, P.underlying t = some (.slice e) ∧ ∃ inf z, P.info? e = some inf ∧ inf.size = (elemTs c).size ∧ inf.bytes ≤ 1024 ∧ inf.zero = some z ∧ zeroVs (elemTs c) z.cells.toList = true ∧
    (match elemTs c with | .one (.int .u8) => P.underlying e = some (.int .u8) | _ => True) := by
  unfold ctOf at h
  split at h
  · rename_i e sz by' ze c' q hT
    cases hc : isSl c' with
    | false => simp [hc] at h
    | true =>
      simp only [hc, cond_true, Option.some.injEq] at h
      subst h
      have k := hok.tys t _ hT
      exact ⟨hc, e, k.u, k.sl c' rfl hc e rfl⟩
  · cases h
theorem okC_ok {ct : Option CT} {c : CT} (h : okC ct c = true) : ct = some c := by
  unfold okC at h
  split at h
  · rw [CT.eq_of_beq _ _ h]
  · cases h
theorem op_convInt (hok : Ok P T) (hI : Inv w0 F R st θ w) (hT : Tm (hp w) R st θ a) {s t : TypeId} {x : Operand} (ho : o.op = .convert s t x) {k k0 k' : IntKind} {n : Int}
    (hs : uOf T s = some (.int k0)) (ht : uOf T t = some (.int k)) (hx : evalSt st x = .one (.i k' n))
    (h : (c1 (.i k (k.wrap n))).run st = some (v, st', l)) : Done P w0 F R st θ w o a v st' := by
  obtain ⟨rfl, rfl⟩ := c1_run h
  refine Done.pure hI (u := .int k (k.wrap n)) ?_ (relI (wrap_range _ _))
  have hu : ∀ {t : TypeId} {u : U}, uOf T t = some u → UOk P t u := fun {t u} h => by
    simp only [uOf, Option.map_eq_some_iff] at h
    obtain ⟨i, hi, rfl⟩ := h
    exact (hok.tys t i hi).u
  have h1 := hu hs; have h2 := hu ht
  simp only [UOk] at h1 h2
  simp only [execOp, ho]
  refine run_val ?_
  simp [convert, run_underlying h1, run_underlying h2, (eval_int hT hx).1, Conv.intToInt]
theorem op_convStr (hok : Ok P T) (hI : Inv w0 F R st θ w) (hT : Tm (hp w) R st θ a) {s t : TypeId} {x : Operand} (ho : o.op = .convert s t x) {n : Bytes}
    (hs : uOf T s = some .str) (ht : uOf T t = some .str) (hx : evalSt st x = .one (.s n))
    (h : (c1 (.s n)).run st = some (v, st', l)) : Done P w0 F R st θ w o a v st' := by
  obtain ⟨rfl, rfl⟩ := c1_run h
  have hr := eval_str hT hx
  refine Done.pure hI (u := .string ⟨n.toArray⟩) ?_ (relS hr.2)
  have hu : ∀ {t : TypeId} {u : U}, uOf T t = some u → UOk P t u := fun {t u} h => by
    simp only [uOf, Option.map_eq_some_iff] at h
    obtain ⟨i, hi, rfl⟩ := h
    exact (hok.tys t i hi).u
  have h1 := hu hs; have h2 := hu ht
  simp only [UOk] at h1 h2
  simp only [execOp, ho]
  refine run_val ?_
  simp [convert, run_underlying h1, run_underlying h2, hr.1]
theorem op_index (hok : Ok P T) (hI : Inv w0 F R st θ w) (hT : Tm (hp w) R st θ a) {t : TypeId} {x i : Operand} (ho : o.op = .index t x i)
    (h : (indexM (T t) (evalSt st x) (evalSt st i)).run st = some (v, st', l)) : Done P w0 F R st θ w o a v st' := by
  unfold indexM at h
  split at h
  · rename_i s k n hx hi
    obtain ⟨hu, h⟩ := M.gd_run h
    obtain ⟨b, hb, h⟩ := M.opt_run h
    obtain ⟨rfl, rfl⟩ := c1_run h
    have hx := eval_str hT hx
    have hi := eval_int hT hi
    have hu := uStr_ok hok hu
    refine Done.pure hI (u := .int .u8 (b.toNat : Int)) ?_ (relI ?_)
    · simp only [execOp, ho]
      refine run_val ?_
      simp only [nthZ, nth] at hb
      cases hn : decide (0 ≤ n) with
      | false => simp [hn] at hb
      | true =>
        simp only [hn, cond_true] at hb
        have hn := of_decide_eq_true hn
        have hb' : (⟨s.toArray⟩ : ByteArray)[n.toNat]? = some b := by
          obtain ⟨h1, h2⟩ := List.getElem?_eq_some_iff.1 hb
          have : n.toNat < (⟨s.toArray⟩ : ByteArray).size := by simpa [ByteArray.size] using h1
          rw [getElem?_pos (⟨s.toArray⟩ : ByteArray) n.toNat this]
          simp [← h2, ByteArray.getElem_eq_getElem_data]
        simp [Instr.index, hx.1, hi.1, asIntOf, run_underlying hu, hn, hb']
    · have := b.toNat_lt
      simp only [IntKind.min, IntKind.max, IntKind.signed, IntKind.bits]
      simp
      omega
  · simp [M.run] at h
theorem op_len (hok : Ok P T) (hI : Inv w0 F R st θ w) (hT : Tm (hp w) R st θ a) {cl : Call} {x : Operand} {t : TypeId} {ts : List TypeId} (ho : o.op = .call cl) (hcl : cl.callee = .builtin .len) (ha : cl.args.toList = [x]) (hta : cl.argTypes.toList = t :: ts)
    (h : (M.tv1 (evalSt st x) (lenM (T t))).run st = some (v, st', l)) : Done P w0 F R st θ w o a v st' := by
  have ha' : cl.args = #[x] := by rw [← Array.toArray_toList (xs := cl.args), ha]
  have hta' : cl.argTypes[0]? = some t := by rw [← Array.getElem?_toList, hta]; rfl
  have fin : ∀ (n : Nat), n ≤ maxLen → (Builtin.len_ cl.argTypes o.type #[a.eval x]).run P w = .ok (.int .i64 (n : Int)) w → v = .one (.i .i64 (n : Int)) → st' = st → Done P w0 F R st θ w o a v st' := by
    intro n hn hr e1 e2
    subst e1
    subst e2
    refine Done.pure hI (u := .int .i64 (n : Int)) ?_ (relI ?_)
    · simp [execOp, ho, resolve, hcl, ha', invoke, builtin, hr]
    · simp only [maxLen] at hn
      simp only [IntKind.min, IntKind.max, IntKind.signed, IntKind.bits]
      simp
      omega
  have gi : ∀ n : Nat, n ≤ maxLen → goInt n = .int .i64 (n : Int) := by
    intro n hn
    simp only [maxLen] at hn
    simp only [goInt]
  cases ep : evalSt st x with
  | agg _ => rw [ep] at h; simp [M.tv1, M.run] at h
  | tup _ => rw [ep] at h; simp [M.tv1, M.run] at h
  | one p =>
    rw [ep] at h
    simp only [M.tv1, lenM] at h
    split at h
    · rename_i s
      obtain ⟨hu, h⟩ := M.gd_run h
      have hrr := c1_run h
      have hx := eval_str hT ep
      exact fin s.length hx.2 (by simp [Builtin.len_, hta', run_underlying (uStr_ok hok hu), hx.1, goInt, show (⟨s.toArray⟩ : ByteArray).size = s.length from rfl]) hrr.1 hrr.2
    · obtain ⟨hu, h⟩ := M.gd_run h
      obtain ⟨e, hu⟩ := uS_ok hok hu
      have hr := eval_rel hT x
      rw [ep] at hr
      simp only [RelV] at hr
      rcases rdSl_sound hI hr.1 h with ⟨⟨ad, e1⟩, h⟩ | ⟨c, y, l1, R', h, hc, hy, -⟩
      · have hrr := c1_run h
        exact fin 0 (by simp [maxLen]) (by simp [Builtin.len_, hta', run_underlying hu, e1, goInt]) hrr.1 hrr.2
      · have hrr := c1_run h
        obtain ⟨ad, cap, e1, h1, h2⟩ := hy.slc hc
        exact fin (lenI c y) (by omega) (by simp [Builtin.len_, hta', run_underlying hu, e1, goInt]) hrr.1 hrr.2
end
end Go.Ev
