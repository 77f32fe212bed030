/- Sizes, copies and comparisons of a law's data. -/
import Derived.Test.YtfledcdkafkgaaaGreatDoorEq
open And renaming intro->À
open List renaming getElem_mem->Á
open Bool renaming not_not->Â
open Bool renaming true->å
open Option renaming some->ã
open Decidable renaming decide->á
open Go.IntKind renaming i64->ß
open List renaming length->à
open Go.IntKind
namespace Go.Proofs.YtfledcdkafkgaaaGreatDoor
open Go Go.Ev
abbrev eb (F:Nat->Int->Option Int) (P:Prop):Prop:=W fun n=> ∀k:Int,0<=k->k<=1048576-> ∃v:Int,F n k=ã v/\v<=1048576/\(0<=v->P)
def qt (A:Option Int) (P:Prop):Prop:= ∃v:Int,A=ã v/\v<=1048576/\(0<=v->P)
theorem yW {v:Int} {B:Option Int} {Q:Prop} (g:0<=v->qt B Q):qt (cond (á (v<0)) (ã (-1)) B) Q:=by
 by_cases c:v<0
 .rw [hC c];exact⟨-1,rfl,ž,fun h=>absurd h ž⟩
 .rw [hJ c];exact g ž
theorem ew {A B:Int->Option Int} {P Q:Prop} {k:Int} (h: ∀k:Int,0<=k->k<=1048576-> ∃v:Int,A k=ã v/\v<=1048576/\(0<=v->P)) (b:0<=k) (d:k<=1048576) (g:P-> ∀v:Int,0<=v->v<=1048576->qt (B v) Q):qt ((A k).bind fun y=>cond (á (y<0)) (ã (-1)) (B y)) Q:=by
 obtain⟨v,e,l,s⟩:=h k b d;rw [e];exact yW fun c=>g (s c) v c l
theorem sD {b:O} {k:Int} {B:Option Int} {Q:Prop} (o:dG .str b) (d:0<=k) (f:k<=1048576) (g:à b<=1048576->0<=wrap ß (k-(à b:Int))->wrap ß (k-(à b:Int))<=1048576->qt B Q):qt (cond (á (wrap ß (k-(à b:Int))<0)) (ã (-1)) B) Q:=by
 have e:=wD (k:=à b) d f o;exact yW fun c=>g ž c ž
theorem jc {F G:Nat->Int->Option Int} {P:Prop} (d: ∀n k,F (n+1) k=G n k) (h:W fun n=> ∀k:Int,0<=k->k<=1048576->qt (G n k) P):eb F P:=W.succ (h.mono fun n h k a b=>by
 have:=h k a b;rw [<-d]at this;exact this)
theorem jd {v:Int} {Q:Prop} (h:v<=1048576) (q:Q):qt (ã v) Q:=⟨v,rfl,h,fun _=>q⟩
theorem Nv {α:Type} {l:List α} {p:α->Prop} {F:Nat->Int->Option Int} (d:à l<=maxLen) (f: ∀n k,F (n+1) k=cond (á (wrap ß (k-(à l:Int))<0)) (ã (-1)) (ã (wrap ß (k-(à l:Int))))) (hp: ∀x∈l,p x):eb F (à l<=1048576/\ ∀x∈l,p x):=jc f (W.of fun n k a b=>by
 rw [wD (k:=à l) a b d];exact yW fun c=>jd ž ⟨ž,hp⟩)
theorem qu {α:Type} {l:List α} {sm:α->Prop} {F:Nat->Int->Option Int} {S:α->Nat->Int->Option Int} {L:Nat->Nat->Int->Int->Option (Sum Int Int)} (g:à l<=maxLen) (j: ∀n k,F (n+1) k=cond (á (wrap ß (k-(à l:Int))<0)) (ã (-1)) ((L n n 0 (wrap ß (k-(à l:Int)))).bind fun y=>aq y (fun z=>ã z) (fun w=>ã w)))
  (p: ∀n m i k,L n (m+1) i k=cond (á (i<(à l:Int))) ((au l i).bind fun y=>(S y n k).bind fun v=>cond (á (v<0)) (ã (Sum.inr (-1))) (L n m (wrap ß (i+1)) v)) (ã (Sum.inl k))) (q: ∀x∈l,eb (S x) (sm x)):eb F (à l<=1048576/\ ∀x∈l,sm x):=by
 by_cases hlen:à l<=1048576
 .refine W.succ ((ahE (sm:=sm) hlen (L:=L) ((W.all l q).mono fun n h m i x k hi b d=> ?_) fun n m k=>by rw [p];simp).mono fun n h k b d=> ?_)
  .obtain⟨f,rfl⟩:=List.getElem?_eq_some_iff.1 hi
   obtain⟨v,e,k1,k2⟩:=h _ (Á f) k b d;refine⟨v, ?_,k1,k2⟩
   rw [p,hC ž,bB f]
   simp only [Y,Z,e]
  .rw [j,wD (k:=à l) b d g]
   refine yW fun c=> ?_
   obtain⟨r,e,k1,k2⟩:=h (k-(à l:Int)) c ž
   rw [e];cases r with
   |inl v=>exact⟨v,rfl,(k1 v rfl).2.1,fun _=>À hlen (k1 v rfl).2.2⟩
   |inr v=>exact⟨v,rfl,by rw [k2 v rfl];omega,fun h=>absurd h (by rw [k2 v rfl];omega)⟩
 .refine W.succ (W.of fun n k b d=> ?_)
  rw [j,wD (k:=à l) b d g];exact yW fun c=>ž
theorem mD {α:Type} {l:List α} {d:α} {F:Nat->Option (List α)} {S:α->Nat->Option α} {L:Nat->Nat->Int->List α->Option (Sum (List α) (List α))} (g:à l<=1048576) (j: ∀n,F (n+1)=cond (á ((0:Int)<=(à l:Int)/\(à l:Int)<=(à l:Int)/\(à l:Int)<=(big:Int))) ((L n n 0 (List.replicate (Int.toNat (à l:Int)) d)).bind fun y=>aq y (fun z=>ã z) (fun w=>ã w)) none)
  (b: ∀n m i out,L n (m+1) i out=cond (á (i<(à l:Int))) ((au l i).bind fun y=>(S y n).bind fun v=>cond (á ((0:Int)<=i/\i<(à out:Int))) ((aO out (Int.toNat i)).bind fun _=>L n m (wrap ß (i+1)) (out.set (Int.toNat i) v)) none) (ã (Sum.inl out))) (k: ∀x∈l,W fun n=>S x n=ã x):W fun n=>F n=ã l:=by
 refine W.succ ((ahF (a:=l) (d:=d) g (L:=L) ((W.all l k).mono fun n h m i out hi f=> ?_) fun n m out=>Ĉ).mono fun n h=> ?_)
 .rw [b,hC ž,bB hi]
  simp only [Y,Z,h _ (Á hi)];rw [hC ž,ie (l:=out) ž]
  simp only [Y,Z,Int.toNat_natCast]
 .rw [j,hC Ũ]
  simp only [Y,Int.toNat_natCast,h,Z,aq]
theorem mE {α:Type} {l:List α} {F:Nat->Option Bool} {S:α->α->Nat->Option Bool} {L:Nat->Nat->Int->Option (Sum Unit Bool)} (d:à l<=1048576) (f: ∀n,F (n+1)=cond ((à l:Int) !=(à l:Int)) (ã false) ((L n n 0).bind fun y=>aq y (fun _=>ã å) (fun w=>ã w)))
  (b: ∀n m i,L n (m+1) i=cond (á (i<(à l:Int))) ((au l i).bind fun y=>(au l i).bind fun z=>(S y z n).bind fun v=>cond (!v) (ã (Sum.inr false)) (L n m (wrap ß (i+1)))) (ã (Sum.inl ()))) (g: ∀x∈l,W fun n=>S x x n=ã å):W fun n=>F n=ã å:=by
 refine W.succ ((ahG d (L:=L) ((W.all l g).mono fun n h m i hi=> ?_) fun n m=>Ĉ).mono fun n h=> ?_)
 .rw [b,hC ž,bB hi]
  simp only [Y,Z,h _ (Á hi),Bool.not_true,ez]
 .rw [f]
  simp only [bne_self_eq_false,ez,h,Z,aq]
theorem Xg (b:af) (d:dG cE b):eb (Br · b) (dw cE b):=
 qu (l:=b) (S:=fun x _ k=>ã (wrap ß (k-(à x:Int)))) (L:=fun n m i left=>Bs n m i b left) d.1 (fun n k=>akZ n b k) (fun n m i left=>alA n m i b left) fun x f=>W.of fun _ k g j=>by
  have e:=wD (k:=à x) g j (d.2 x f);exact⟨_,rfl,ž,fun h=>show à x<=1048576 by omega⟩
theorem azS (b:Int) (d:Int) (f:O) (g:fH (.cons (.int ß) (.cons (.int ß) (.one .str))) (b,d,f)):eb (fun n=>Bv n b d f) (cA (.cons (.int ß) (.cons (.int ß) (.one .str))) (b,d,f)):=by
 obtain⟨i,j,h⟩:=g;exact jc (fun n k=>alD n b d f k) (W.of fun n _ c l=>sD h c l fun t2 c l=>jd l (À trivial (À trivial t2)))
theorem Xh (b:ae) (d:dG aN b):eb (Bt · b) (dw aN b):=
 qu (l:=b) (S:=fun x n k=>Bv n x.1 x.2.1 x.2.2 k) (L:=fun n m i left=>Bu n m i left b) d.1 (fun n k=>alB n b k) (fun n m i left=>alC n m i left b) fun x f=>azS x.1 x.2.1 x.2.2 (d.2 x f)
theorem azT (b:af) (d:af) (f:ae) (g:ae) (h:fH (.cons cE (.cons cE (.cons aN (.one aN)))) (b,d,f,g)):eb (fun n=>Jo n b d f g) (cA (.cons cE (.cons cE (.cons aN (.one aN)))) (b,d,f,g)):=by
 obtain⟨i,j,m,p⟩:=h;exact jc (fun n k=>akY n b d f g k) (((((Xg b i).and (Xg d j)).and (Xh f m)).and (Xh g p)).mono fun n ⟨⟨⟨q,r⟩,s⟩,t⟩ _ c l=>ew q c l fun t0 _ c l=>ew r c l fun t1 _ c l=>ew s c l fun t2 _ c l=>ew t c l fun t3 _ c l=>jd l (À t0 (À t1 (À t2 t3))))
theorem Xi (b:Int) (d:Int) (f:O) (g:fH (.cons (.int ß) (.cons (.int ß) (.one .str))) (b,d,f)):eb (fun n=>xf n b d f) (cA (.cons (.int ß) (.cons (.int ß) (.one .str))) (b,d,f)):=by
 obtain⟨i,j,h⟩:=g;exact jc (fun n k=>alM n b d f k) (W.of fun n _ c l=>sD h c l fun t2 c l=>jd l (À trivial (À trivial t2)))
theorem azU (g:Int) (b:Int) (d:Int) (f:O) (h:fH (.cons (.int ß) (.cons (.int ß) (.cons (.int ß) (.one .str)))) (g,b,d,f)):eb (fun n=>BA n g b d f) (cA (.cons (.int ß) (.cons (.int ß) (.cons (.int ß) (.one .str)))) (g,b,d,f)):=by
 obtain⟨q,i,j,m⟩:=h;exact jc (fun n k=>alL n g b d f k) ((Xi b d f (À i (À j m))).mono fun n p _ c l=>ew p c l fun⟨t1,t2,t3⟩ _ c l=>jd l (À trivial (À t1 (À t2 t3))))
theorem Xj (b:aj) (d:dG cw b):eb (By · b) (dw cw b):=
 qu (l:=b) (S:=fun x n k=>BA n x.1 x.2.1 x.2.2.1 x.2.2.2 k) (L:=fun n m i left=>Bz n m i left b) d.1 (fun n k=>alJ n b k) (fun n m i left=>alK n m i left b) fun x f=>azU x.1 x.2.1 x.2.2.1 x.2.2.2 (d.2 x f)
theorem azV (d:Int) (f:Int) (b:aj) (g:fH (.cons (.int ß) (.cons (.int ß) (.one cw))) (d,f,b)):eb (fun n=>Jr n d f b) (cA (.cons (.int ß) (.cons (.int ß) (.one cw))) (d,f,b)):=by
 obtain⟨j,m,h⟩:=g;exact jc (fun n k=>alI n d f b k) ((Xj b h).mono fun n i _ c l=>ew i c l fun t2 _ c l=>jd l (À trivial (À trivial t2)))
theorem Xk (b:Int) (d:Int) (f:O) (g:fH (.cons (.int ß) (.cons (.int ß) (.one .str))) (b,d,f)):eb (fun n=>xg n b d f) (cA (.cons (.int ß) (.cons (.int ß) (.one .str))) (b,d,f)):=by
 obtain⟨i,j,h⟩:=g;exact jc (fun n k=>alR n b d f k) (W.of fun n _ c l=>sD h c l fun t2 c l=>jd l (À trivial (À trivial t2)))
theorem azW (b:ae) (d:dG aN b):eb (Jt · b) (dw aN b):=
 qu (l:=b) (S:=fun x n k=>xg n x.1 x.2.1 x.2.2 k) (L:=fun n m i left=>BD n m i left b) d.1 (fun n k=>alP n b k) (fun n m i left=>alQ n m i left b) fun x f=>Xk x.1 x.2.1 x.2.2 (d.2 x f)
theorem azX (g:Int) (h:O) (b:Int) (d:Int) (f:O) (i:fH (.cons (.int ß) (.cons .str (.cons (.int ß) (.cons (.int ß) (.one .str))))) (g,h,b,d,f)):eb (fun n=>BG n g h b d f) (cA (.cons (.int ß) (.cons .str (.cons (.int ß) (.cons (.int ß) (.one .str))))) (g,h,b,d,f)):=by
 obtain⟨s,j,m,p,q⟩:=i;exact jc (fun n k=>alU n g h b d f k) ((Xk b d f (À m (À p q))).mono fun n r _ c l=>sD j c l fun t1 c l=>ew r c l fun⟨t2,t3,t4⟩ _ c l=>jd l (À trivial (À t1 (À t2 (À t3 t4)))))
theorem azY (b:ai) (d:dG bR b):eb (Ju · b) (dw bR b):=
 qu (l:=b) (S:=fun x n k=>BG n x.1 x.2.1 x.2.2.1 x.2.2.2.1 x.2.2.2.2 k) (L:=fun n m i left=>BF n m i left b) d.1 (fun n k=>alS n b k) (fun n m i left=>alT n m i left b) fun x f=>azX x.1 x.2.1 x.2.2.1 x.2.2.2.1 x.2.2.2.2 (d.2 x f)
theorem azZ (b:ae) (d:ai) (f:Int) (g:Int) (h:fH (.cons aN (.cons bR (.cons (.int ß) (.one (.int ß))))) (b,d,f,g)):eb (fun n=>Js n b d f g) (cA (.cons aN (.cons bR (.cons (.int ß) (.one (.int ß))))) (b,d,f,g)):=by
 obtain⟨i,j,q,r⟩:=h;exact jc (fun n k=>alO n b d f g k) (((azW b i).and (azY d j)).mono fun n ⟨m,p⟩ _ c l=>ew m c l fun t0 _ c l=>ew p c l fun t1 _ c l=>jd l (À t0 (À t1 (À trivial trivial))))
theorem yX (b:ag) (d:dG bh b):eb (rR · b) (dw bh b):=
 Nv d.1 (fun n k=>alV n b k) fun _ _=>trivial
theorem Xl (b:ae) (d:ai) (f:Int) (g:Int) (h:ag) (i:O) (j:fH (.cons aN (.cons bR (.cons (.int ß) (.cons (.int ß) (.cons bh (.one .str)))))) (b,d,f,g,h,i)):eb (fun n=>BB n b d f g h i) (cA (.cons aN (.cons bR (.cons (.int ß) (.cons (.int ß) (.cons bh (.one .str)))))) (b,d,f,g,h,i)):=by
 obtain⟨m,p,q,r,s,t⟩:=j;exact jc (fun n k=>alN n b d f g h i k) (((azZ b d f g (À m (À p (À q r)))).and (yX h s)).mono fun n ⟨u,z⟩ _ c l=>ew u c l fun⟨t0,t1,t2,t3⟩ _ c l=>ew z c l fun t4 _ c l=>sD t c l fun t5 c l=>jd l (À t0 (À t1 (À t2 (À t3 (À t4 t5))))))
theorem aAa (q:Int) (r:Int) (d:Int) (f:Int) (g:aj) (h:ae) (i:ai) (j:Int) (m:Int) (p:ag) (b:O) (t:fH (.cons (.int ß) (.cons (.int ß) (.cons (.int ß) (.cons (.int ß) (.cons cw (.cons aN (.cons bR (.cons (.int ß) (.cons (.int ß) (.cons bh (.one .str))))))))))) (q,r,d,f,g,h,i,j,m,p,b)):eb (fun n=>Jq n q r d f g h i j m p b) (cA (.cons (.int ß) (.cons (.int ß) (.cons (.int ß) (.cons (.int ß) (.cons cw (.cons aN (.cons bR (.cons (.int ß) (.cons (.int ß) (.cons bh (.one .str))))))))))) (q,r,d,f,g,h,i,j,m,p,b)):=by
 obtain⟨o0,o1,u,z,o4,o5,o6,o7,o8,o9,s⟩:=t;exact jc (fun n k=>alH n q r d f g h i j m p b k) (((azV d f g (À u (À z o4))).and (Xl h i j m p b (À o5 (À o6 (À o7 (À o8 (À o9 s))))))).mono fun n ⟨h0,h1⟩ _ c l=>ew h0 c l fun⟨t2,t3,t4⟩ _ c l=>ew h1 c l fun⟨t5,t6,t7,t8,t9,t10⟩ _ c l=>jd l (À trivial (À trivial (À t2 (À t3 (À t4 (À t5 (À t6 (À t7 (À t8 (À t9 t10)))))))))))
theorem aAb (b:cf) (d:dG iY b):eb (Jv · b) (dw iY b):=
 Nv d.1 (fun n k=>alW n b k) fun _ _=>trivial
theorem aAc (b:aC) (d:dG eT b):eb (Jx · b) (dw eT b):=
 Nv d.1 (fun n k=>alY n b k) fun _ _=>trivial
theorem aAd (b:aC) (d:Int) (f:fH (.cons eT (.one (.int ß))) (b,d)):eb (fun n=>Jw n b d) (cA (.cons eT (.one (.int ß))) (b,d)):=by
 obtain⟨g,i⟩:=f;exact jc (fun n k=>alX n b d k) ((aAc b g).mono fun n h _ c l=>ew h c l fun t0 _ c l=>jd l (À t0 trivial))
theorem aAe (d:Int) (f:Int) (g:Int) (h:Int) (i:Int) (j:Int) (m:Int) (b:aj) (p:Bool) (q:O) (r:fH (.cons (.int ß) (.cons (.int ß) (.cons (.int ß) (.cons (.int ß) (.cons (.int ß) (.cons (.int ß) (.cons (.int ß) (.cons cw (.cons .bool (.one .str)))))))))) (d,f,g,h,i,j,m,b,p,q)):eb (fun n=>BJ n d f g h i j m b p q) (cA (.cons (.int ß) (.cons (.int ß) (.cons (.int ß) (.cons (.int ß) (.cons (.int ß) (.cons (.int ß) (.cons (.int ß) (.cons cw (.cons .bool (.one .str)))))))))) (d,f,g,h,i,j,m,b,p,q)):=by
 obtain⟨z,o1,o2,o3,o4,o5,o6,s,o8,t⟩:=r;exact jc (fun n k=>amB n d f g h i j m b p q k) ((Xj b s).mono fun n u _ c l=>ew u c l fun t7 _ c l=>sD t c l fun t9 c l=>jd l (À trivial (À trivial (À trivial (À trivial (À trivial (À trivial (À trivial (À t7 (À trivial t9))))))))))
theorem Xm (b:bp) (d:dG eD b):eb (BH · b) (dw eD b):=
 qu (l:=b) (S:=fun x n k=>BJ n x.1 x.2.1 x.2.2.1 x.2.2.2.1 x.2.2.2.2.1 x.2.2.2.2.2.1 x.2.2.2.2.2.2.1 x.2.2.2.2.2.2.2.1 x.2.2.2.2.2.2.2.2.1 x.2.2.2.2.2.2.2.2.2 k) (L:=fun n m i left=>BI n m i left b) d.1 (fun n k=>alZ n b k) (fun n m i left=>amA n m i left b) fun x f=>aAe x.1 x.2.1 x.2.2.1 x.2.2.2.1 x.2.2.2.2.1 x.2.2.2.2.2.1 x.2.2.2.2.2.2.1 x.2.2.2.2.2.2.2.1 x.2.2.2.2.2.2.2.2.1 x.2.2.2.2.2.2.2.2.2 (d.2 x f)
theorem aAf (x0:Int) (x1:Int) (x2:Int) (x3:Int) (x4:Int) (x5:aj) (x6:ae) (x7:ai) (x8:Int) (x9:Int) (b:ag) (d:O) (z:Int) (f:cf) (g:ag) (h:ag) (ad:Int) (i:ae) (j:ai) (m:Int) (p:Int) (q:ag) (r:O) (s:aC) (t:Int) (u:bp) (ho:fH (.cons (.int ß) (.cons (.int ß) (.cons (.int ß) (.cons (.int ß) (.cons (.int ß) (.cons cw (.cons aN (.cons bR (.cons (.int ß) (.cons (.int ß) (.cons bh (.cons .str (.cons (.int ß) (.cons iY (.cons bh (.cons bh (.cons (.int ß) (.cons aN (.cons bR (.cons (.int ß) (.cons (.int ß) (.cons bh (.cons .str (.cons eT (.cons (.int ß) (.one eD)))))))))))))))))))))))))) (x0,x1,x2,x3,x4,x5,x6,x7,x8,x9,b,d,z,f,g,h,ad,i,j,m,p,q,r,s,t,u)):eb (fun n=>Bx n x0 x1 x2 x3 x4 x5 x6 x7 x8 x9 b d z f g h ad i j m p q r s t u) (cA (.cons (.int ß) (.cons (.int ß) (.cons (.int ß) (.cons (.int ß) (.cons (.int ß) (.cons cw (.cons aN (.cons bR (.cons (.int ß) (.cons (.int ß) (.cons bh (.cons .str (.cons (.int ß) (.cons iY (.cons bh (.cons bh (.cons (.int ß) (.cons aN (.cons bR (.cons (.int ß) (.cons (.int ß) (.cons bh (.cons .str (.cons eT (.cons (.int ß) (.one eD)))))))))))))))))))))))))) (x0,x1,x2,x3,x4,x5,x6,x7,x8,x9,b,d,z,f,g,h,ad,i,j,m,p,q,r,s,t,u)):=by
 obtain⟨o0,o1,o2,o3,o4,o5,o6,o7,o8,o9,ax,ay,bz,az,a1,a6,ca,a7,a8,bb,bc,bd,bf,bg,bj,bk⟩:=ho;exact jc (fun n k=>alG n x0 x1 x2 x3 x4 x5 x6 x7 x8 x9 b d z f g h ad i j m p q r s t u k) ((((((((aAa x1 x2 x3 x4 x5 x6 x7 x8 x9 b d (À o1 (À o2 (À o3 (À o4 (À o5 (À o6 (À o7 (À o8 (À o9 (À ax ay))))))))))).and (aAb f az)).and (yX g a1)).and (yX h a6)).and (Xl i j m p q r (À a7 (À a8 (À bb (À bc (À bd bf))))))).and (aAd s t (À bg bj))).and (Xm u bk)).mono fun n ⟨⟨⟨⟨⟨⟨h0,h1⟩,h2⟩,h3⟩,h4⟩,h5⟩,h6⟩ _ c l=>ew h0 c l fun⟨t1,t2,t3,t4,t5,t6,t7,t8,t9,t10,t11⟩ _ c l=>ew h1 c l fun t13 _ c l=>ew h2 c l fun t14 _ c l=>ew h3 c l fun t15 _ c l=>ew h4 c l fun⟨t17,t18,t19,t20,t21,t22⟩ _ c l=>ew h5 c l fun⟨t23,t24⟩ _ c l=>ew h6 c l fun t25 _ c l=>jd l (À trivial (À t1 (À t2 (À t3 (À t4 (À t5 (À t6 (À t7 (À t8 (À t9 (À t10 (À t11 (À trivial (À t13 (À t14 (À t15 (À trivial (À t17 (À t18 (À t19 (À t20 (À t21 (À t22 (À t23 (À t24 t25))))))))))))))))))))))))))
theorem aAg (b:ck) (d:dG gb b):eb (Jp · b) (dw gb b):=
 qu (l:=b) (S:=fun x n k=>Bx n x.1 x.2.1 x.2.2.1 x.2.2.2.1 x.2.2.2.2.1 x.2.2.2.2.2.1 x.2.2.2.2.2.2.1 x.2.2.2.2.2.2.2.1 x.2.2.2.2.2.2.2.2.1 x.2.2.2.2.2.2.2.2.2.1 x.2.2.2.2.2.2.2.2.2.2.1 x.2.2.2.2.2.2.2.2.2.2.2.1 x.2.2.2.2.2.2.2.2.2.2.2.2.1 x.2.2.2.2.2.2.2.2.2.2.2.2.2.1 x.2.2.2.2.2.2.2.2.2.2.2.2.2.2.1 x.2.2.2.2.2.2.2.2.2.2.2.2.2.2.2.1 x.2.2.2.2.2.2.2.2.2.2.2.2.2.2.2.2.1 x.2.2.2.2.2.2.2.2.2.2.2.2.2.2.2.2.2.1 x.2.2.2.2.2.2.2.2.2.2.2.2.2.2.2.2.2.2.1 x.2.2.2.2.2.2.2.2.2.2.2.2.2.2.2.2.2.2.2.1 x.2.2.2.2.2.2.2.2.2.2.2.2.2.2.2.2.2.2.2.2.1 x.2.2.2.2.2.2.2.2.2.2.2.2.2.2.2.2.2.2.2.2.2.1 x.2.2.2.2.2.2.2.2.2.2.2.2.2.2.2.2.2.2.2.2.2.2.1 x.2.2.2.2.2.2.2.2.2.2.2.2.2.2.2.2.2.2.2.2.2.2.2.1 x.2.2.2.2.2.2.2.2.2.2.2.2.2.2.2.2.2.2.2.2.2.2.2.2.1 x.2.2.2.2.2.2.2.2.2.2.2.2.2.2.2.2.2.2.2.2.2.2.2.2.2 k) (L:=fun n m i left=>Bw n m i left b) d.1 (fun n k=>alE n b k) (fun n m i left=>alF n m i left b) fun x f=>aAf x.1 x.2.1 x.2.2.1 x.2.2.2.1 x.2.2.2.2.1 x.2.2.2.2.2.1 x.2.2.2.2.2.2.1 x.2.2.2.2.2.2.2.1 x.2.2.2.2.2.2.2.2.1 x.2.2.2.2.2.2.2.2.2.1 x.2.2.2.2.2.2.2.2.2.2.1 x.2.2.2.2.2.2.2.2.2.2.2.1 x.2.2.2.2.2.2.2.2.2.2.2.2.1 x.2.2.2.2.2.2.2.2.2.2.2.2.2.1 x.2.2.2.2.2.2.2.2.2.2.2.2.2.2.1 x.2.2.2.2.2.2.2.2.2.2.2.2.2.2.2.1 x.2.2.2.2.2.2.2.2.2.2.2.2.2.2.2.2.1 x.2.2.2.2.2.2.2.2.2.2.2.2.2.2.2.2.2.1 x.2.2.2.2.2.2.2.2.2.2.2.2.2.2.2.2.2.2.1 x.2.2.2.2.2.2.2.2.2.2.2.2.2.2.2.2.2.2.2.1 x.2.2.2.2.2.2.2.2.2.2.2.2.2.2.2.2.2.2.2.2.1 x.2.2.2.2.2.2.2.2.2.2.2.2.2.2.2.2.2.2.2.2.2.1 x.2.2.2.2.2.2.2.2.2.2.2.2.2.2.2.2.2.2.2.2.2.2.1 x.2.2.2.2.2.2.2.2.2.2.2.2.2.2.2.2.2.2.2.2.2.2.2.1 x.2.2.2.2.2.2.2.2.2.2.2.2.2.2.2.2.2.2.2.2.2.2.2.2.1 x.2.2.2.2.2.2.2.2.2.2.2.2.2.2.2.2.2.2.2.2.2.2.2.2.2 (d.2 x f)
theorem aAh (b:Int) (d:O) (f:fH (.cons (.int ß) (.one .str)) (b,d)):eb (fun n=>Jy n b d) (cA (.cons (.int ß) (.one .str)) (b,d)):=by
 obtain⟨h,g⟩:=f;exact jc (fun n k=>amC n b d k) (W.of fun n _ c l=>sD g c l fun t1 c l=>jd l (À trivial t1))
theorem aAi (b:ae) (d:dG aN b):eb (Jz · b) (dw aN b):=
 qu (l:=b) (S:=fun x n k=>xf n x.1 x.2.1 x.2.2 k) (L:=fun n m i left=>BK n m i left b) d.1 (fun n k=>amD n b k) (fun n m i left=>amE n m i left b) fun x f=>Xi x.1 x.2.1 x.2.2 (d.2 x f)
theorem aAj (f:af) (g:af) (h:ae) (i:ae) (s:Int) (j:ck) (m:bp) (p:Int) (q:O) (r:ag) (b:ag) (d:ae) (z:fH (.cons cE (.cons cE (.cons aN (.cons aN (.cons (.int ß) (.cons gb (.cons eD (.cons (.int ß) (.cons .str (.cons bh (.cons bh (.one aN)))))))))))) (f,g,h,i,s,j,m,p,q,r,b,d)):eb (fun n=>Jn n f g h i s j m p q r b d) (cA (.cons cE (.cons cE (.cons aN (.cons aN (.cons (.int ß) (.cons gb (.cons eD (.cons (.int ß) (.cons .str (.cons bh (.cons bh (.one aN)))))))))))) (f,g,h,i,s,j,m,p,q,r,b,d)):=by
 obtain⟨o0,o1,o2,o3,o4,o5,o6,o7,o8,o9,t,u⟩:=z;exact jc (fun n k=>akX n f g h i s j m p q r b d k) ((((((((azT f g h i (À o0 (À o1 (À o2 o3)))).and (aAg j o5)).and (Xm m o6)).and (aAh p q (À o7 o8))).and (yX r o9)).and (yX b t)).and (aAi d u)).mono fun n ⟨⟨⟨⟨⟨⟨h0,h1⟩,h2⟩,h3⟩,h4⟩,h5⟩,h6⟩ _ c l=>ew h0 c l fun⟨t0,t1,t2,t3⟩ _ c l=>ew h1 c l fun t5 _ c l=>ew h2 c l fun t6 _ c l=>ew h3 c l fun⟨t7,t8⟩ _ c l=>ew h4 c l fun t9 _ c l=>ew h5 c l fun t10 _ c l=>ew h6 c l fun t11 _ c l=>jd l (À t0 (À t1 (À t2 (À t3 (À trivial (À t5 (À t6 (À t7 (À t8 (À t9 (À t10 t11))))))))))))
theorem Xn (b:af) (d:dw cE b):W fun n=>BL n b=ã b:=
 mD (l:=b) (S:=fun x _=>ã x) (L:=fun n m i out=>BM n m i b out) d.1 (fun n=>amH n b) (fun n m i out=>amI n m i b out) fun _ _=>W.of fun _=>rfl
theorem aAk (b:Int) (d:Int) (f:O) (_:cA (.cons (.int ß) (.cons (.int ß) (.one .str))) (b,d,f)):W fun n=>BP n b d f=ã (b,d,f):=by
 exact W.succ (W.of fun n=>by rw [amL])
theorem Xo (b:ae) (d:dw aN b):W fun n=>BN n b=ã b:=
 mD (l:=b) (S:=fun x n=>BP n x.1 x.2.1 x.2.2) (L:=fun n m i out=>BO n m i b out) d.1 (fun n=>amJ n b) (fun n m i out=>amK n m i b out) fun x f=>aAk x.1 x.2.1 x.2.2 (d.2 x f)
theorem aAl (b:af) (d:af) (f:ae) (g:ae) (h:cA (.cons cE (.cons cE (.cons aN (.one aN)))) (b,d,f,g)):W fun n=>JA n b d f g=ã (b,d,f,g):=by
 obtain⟨i,s1,s2,j⟩:=h;refine W.succ (((((Xn b i).and (Xn d s1)).and (Xo f s2)).and (Xo g j)).mono fun n ⟨⟨⟨k,m⟩,p⟩,q⟩=> ?_)
 rw [amG];simp only [k,m,p,q,Z]
theorem Xp (b:Int) (d:Int) (f:O) (_:cA (.cons (.int ß) (.cons (.int ß) (.one .str))) (b,d,f)):W fun n=>xi n b d f=ã (b,d,f):=by
 exact W.succ (W.of fun n=>by rw [amU])
theorem aAm (g:Int) (b:Int) (d:Int) (f:O) (h:cA (.cons (.int ß) (.cons (.int ß) (.cons (.int ß) (.one .str)))) (g,b,d,f)):W fun n=>BU n g b d f=ã (g,b,d,f):=by
 obtain⟨k,s1,s2,i⟩:=h;refine W.succ ((Xp b d f (À s1 (À s2 i))).mono fun n j=> ?_)
 rw [amT];simp only [j,Z]
theorem Xq (b:aj) (d:dw cw b):W fun n=>BS n b=ã b:=
 mD (l:=b) (S:=fun x n=>BU n x.1 x.2.1 x.2.2.1 x.2.2.2) (L:=fun n m i out=>BT n m i b out) d.1 (fun n=>amR n b) (fun n m i out=>amS n m i b out) fun x f=>aAm x.1 x.2.1 x.2.2.1 x.2.2.2 (d.2 x f)
theorem aAn (d:Int) (f:Int) (b:aj) (g:cA (.cons (.int ß) (.cons (.int ß) (.one cw))) (d,f,b)):W fun n=>JD n d f b=ã (d,f,b):=by
 obtain⟨i,s1,s2⟩:=g;refine W.succ ((Xq b s2).mono fun n h=> ?_)
 rw [amQ];simp only [h,Z]
theorem Xr (b:Int) (d:Int) (f:O) (_:cA (.cons (.int ß) (.cons (.int ß) (.one .str))) (b,d,f)):W fun n=>xj n b d f=ã (b,d,f):=by
 exact W.succ (W.of fun n=>by rw [amZ])
theorem aAo (b:ae) (d:dw aN b):W fun n=>JF n b=ã b:=
 mD (l:=b) (S:=fun x n=>xj n x.1 x.2.1 x.2.2) (L:=fun n m i out=>BW n m i b out) d.1 (fun n=>amX n b) (fun n m i out=>amY n m i b out) fun x f=>Xr x.1 x.2.1 x.2.2 (d.2 x f)
theorem aAp (g:Int) (h:O) (b:Int) (d:Int) (f:O) (i:cA (.cons (.int ß) (.cons .str (.cons (.int ß) (.cons (.int ß) (.one .str))))) (g,h,b,d,f)):W fun n=>BY n g h b d f=ã (g,h,b,d,f):=by
 obtain⟨p,s1,s2,j,k⟩:=i;refine W.succ ((Xr b d f (À s2 (À j k))).mono fun n m=> ?_)
 rw [anC];simp only [m,Z]
theorem aAq (b:ai) (d:dw bR b):W fun n=>JG n b=ã b:=
 mD (l:=b) (S:=fun x n=>BY n x.1 x.2.1 x.2.2.1 x.2.2.2.1 x.2.2.2.2) (L:=fun n m i out=>BX n m i b out) d.1 (fun n=>anA n b) (fun n m i out=>anB n m i b out) fun x f=>aAp x.1 x.2.1 x.2.2.1 x.2.2.2.1 x.2.2.2.2 (d.2 x f)
theorem aAr (b:ae) (d:ai) (f:Int) (g:Int) (h:cA (.cons aN (.cons bR (.cons (.int ß) (.one (.int ß))))) (b,d,f,g)):W fun n=>JE n b d f g=ã (b,d,f,g):=by
 obtain⟨i,s1,s2,m⟩:=h;refine W.succ (((aAo b i).and (aAq d s1)).mono fun n ⟨j,k⟩=> ?_)
 rw [amW];simp only [j,k,Z]
theorem yY (b:ag) (d:dw bh b):W fun n=>rS n b=ã b:=
 mD (l:=b) (S:=fun x _=>ã x) (L:=fun n m i out=>BZ n m i b out) d.1 (fun n=>anD n b) (fun n m i out=>anE n m i b out) fun _ _=>W.of fun _=>rfl
theorem Xs (b:ae) (d:ai) (f:Int) (g:Int) (h:ag) (i:O) (j:cA (.cons aN (.cons bR (.cons (.int ß) (.cons (.int ß) (.cons bh (.one .str)))))) (b,d,f,g,h,i)):W fun n=>BV n b d f g h i=ã (b,d,f,g,h,i):=by
 obtain⟨k,s1,s2,m,p,s⟩:=j;refine W.succ (((aAr b d f g (À k (À s1 (À s2 m)))).and (yY h p)).mono fun n ⟨q,r⟩=> ?_)
 rw [amV];simp only [q,r,Z]
theorem aAs (p:Int) (q:Int) (d:Int) (f:Int) (g:aj) (h:ae) (i:ai) (j:Int) (k:Int) (m:ag) (b:O) (s:cA (.cons (.int ß) (.cons (.int ß) (.cons (.int ß) (.cons (.int ß) (.cons cw (.cons aN (.cons bR (.cons (.int ß) (.cons (.int ß) (.cons bh (.one .str))))))))))) (p,q,d,f,g,h,i,j,k,m,b)):W fun n=>JC n p q d f g h i j k m b=ã (p,q,d,f,g,h,i,j,k,m,b):=by
 obtain⟨s0,s1,s2,t,u,z,s6,s7,s8,s9,r⟩:=s;refine W.succ (((aAn d f g (À s2 (À t u))).and (Xs h i j k m b (À z (À s6 (À s7 (À s8 (À s9 r))))))).mono fun n ⟨h0,h1⟩=> ?_)
 rw [amP];simp only [h0,h1,Z]
theorem aAt (b:cf) (d:dw iY b):W fun n=>JH n b=ã b:=
 mD (l:=b) (S:=fun x _=>ã x) (L:=fun n m i out=>Ca n m i b out) d.1 (fun n=>anF n b) (fun n m i out=>anG n m i b out) fun _ _=>W.of fun _=>rfl
theorem aAu (b:aC) (d:dw eT b):W fun n=>JJ n b=ã b:=
 mD (l:=b) (S:=fun x _=>ã (UInt8.ofNat (Int.toNat (x.toNat:Int)))) (L:=fun n m i out=>Cb n m i b out) d.1 (fun n=>anI n b) (fun n m i out=>anJ n m i b out) fun _ _=>W.of fun _=>Ż
theorem aAv (b:aC) (d:Int) (f:cA (.cons eT (.one (.int ß))) (b,d)):W fun n=>JI n b d=ã (b,d):=by
 obtain⟨g,s1⟩:=f;refine W.succ ((aAu b g).mono fun n h=> ?_)
 rw [anH];simp only [h,Z]
theorem aAw (d:Int) (f:Int) (g:Int) (h:Int) (i:Int) (j:Int) (k:Int) (b:aj) (m:Bool) (p:O) (q:cA (.cons (.int ß) (.cons (.int ß) (.cons (.int ß) (.cons (.int ß) (.cons (.int ß) (.cons (.int ß) (.cons (.int ß) (.cons cw (.cons .bool (.one .str)))))))))) (d,f,g,h,i,j,k,b,m,p)):W fun n=>Ce n d f g h i j k b m p=ã (d,f,g,h,i,j,k,b,m,p):=by
 obtain⟨t,s1,s2,u,z,s5,s6,r,s8,s9⟩:=q;refine W.succ ((Xq b r).mono fun n s=> ?_)
 rw [anM];simp only [s,Z]
theorem Xt (b:bp) (d:dw eD b):W fun n=>Cc n b=ã b:=
 mD (l:=b) (S:=fun x n=>Ce n x.1 x.2.1 x.2.2.1 x.2.2.2.1 x.2.2.2.2.1 x.2.2.2.2.2.1 x.2.2.2.2.2.2.1 x.2.2.2.2.2.2.2.1 x.2.2.2.2.2.2.2.2.1 x.2.2.2.2.2.2.2.2.2) (L:=fun n m i out=>Cd n m i b out) d.1 (fun n=>anK n b) (fun n m i out=>anL n m i b out) fun x f=>aAw x.1 x.2.1 x.2.2.1 x.2.2.2.1 x.2.2.2.2.1 x.2.2.2.2.2.1 x.2.2.2.2.2.2.1 x.2.2.2.2.2.2.2.1 x.2.2.2.2.2.2.2.2.1 x.2.2.2.2.2.2.2.2.2 (d.2 x f)
theorem aAx (x0:Int) (x1:Int) (x2:Int) (x3:Int) (x4:Int) (x5:aj) (x6:ae) (x7:ai) (x8:Int) (x9:Int) (b:ag) (d:O) (u:Int) (f:cf) (g:ag) (h:ag) (z:Int) (i:ae) (j:ai) (k:Int) (m:Int) (p:ag) (q:O) (r:aC) (s:Int) (t:bp) (hs:cA (.cons (.int ß) (.cons (.int ß) (.cons (.int ß) (.cons (.int ß) (.cons (.int ß) (.cons cw (.cons aN (.cons bR (.cons (.int ß) (.cons (.int ß) (.cons bh (.cons .str (.cons (.int ß) (.cons iY (.cons bh (.cons bh (.cons (.int ß) (.cons aN (.cons bR (.cons (.int ß) (.cons (.int ß) (.cons bh (.cons .str (.cons eT (.cons (.int ß) (.one eD)))))))))))))))))))))))))) (x0,x1,x2,x3,x4,x5,x6,x7,x8,x9,b,d,u,f,g,h,z,i,j,k,m,p,q,r,s,t)):W fun n=>BR n x0 x1 x2 x3 x4 x5 x6 x7 x8 x9 b d u f g h z i j k m p q r s t=ã (x0,x1,x2,x3,x4,x5,x6,x7,x8,x9,b,d,u,f,g,h,z,i,j,k,m,p,q,r,s,t):=by
 obtain⟨s0,s1,s2,s3,s4,s5,s6,s7,s8,s9,aw,ax,bu,ay,az,a1,bw,a6,a7,a8,bb,bc,bd,bf,bg,bj⟩:=hs;refine W.succ ((((((((aAs x1 x2 x3 x4 x5 x6 x7 x8 x9 b d (À s1 (À s2 (À s3 (À s4 (À s5 (À s6 (À s7 (À s8 (À s9 (À aw ax))))))))))).and (aAt f ay)).and (yY g az)).and (yY h a1)).and (Xs i j k m p q (À a6 (À a7 (À a8 (À bb (À bc bd))))))).and (aAv r s (À bf bg))).and (Xt t bj)).mono fun n ⟨⟨⟨⟨⟨⟨h0,h1⟩,h2⟩,h3⟩,h4⟩,h5⟩,h6⟩=> ?_)
 rw [amO];simp only [h0,h1,h2,h3,h4,h5,h6,Z]
theorem aAy (b:ck) (d:dw gb b):W fun n=>JB n b=ã b:=
 mD (l:=b) (S:=fun x n=>BR n x.1 x.2.1 x.2.2.1 x.2.2.2.1 x.2.2.2.2.1 x.2.2.2.2.2.1 x.2.2.2.2.2.2.1 x.2.2.2.2.2.2.2.1 x.2.2.2.2.2.2.2.2.1 x.2.2.2.2.2.2.2.2.2.1 x.2.2.2.2.2.2.2.2.2.2.1 x.2.2.2.2.2.2.2.2.2.2.2.1 x.2.2.2.2.2.2.2.2.2.2.2.2.1 x.2.2.2.2.2.2.2.2.2.2.2.2.2.1 x.2.2.2.2.2.2.2.2.2.2.2.2.2.2.1 x.2.2.2.2.2.2.2.2.2.2.2.2.2.2.2.1 x.2.2.2.2.2.2.2.2.2.2.2.2.2.2.2.2.1 x.2.2.2.2.2.2.2.2.2.2.2.2.2.2.2.2.2.1 x.2.2.2.2.2.2.2.2.2.2.2.2.2.2.2.2.2.2.1 x.2.2.2.2.2.2.2.2.2.2.2.2.2.2.2.2.2.2.2.1 x.2.2.2.2.2.2.2.2.2.2.2.2.2.2.2.2.2.2.2.2.1 x.2.2.2.2.2.2.2.2.2.2.2.2.2.2.2.2.2.2.2.2.2.1 x.2.2.2.2.2.2.2.2.2.2.2.2.2.2.2.2.2.2.2.2.2.2.1 x.2.2.2.2.2.2.2.2.2.2.2.2.2.2.2.2.2.2.2.2.2.2.2.1 x.2.2.2.2.2.2.2.2.2.2.2.2.2.2.2.2.2.2.2.2.2.2.2.2.1 x.2.2.2.2.2.2.2.2.2.2.2.2.2.2.2.2.2.2.2.2.2.2.2.2.2) (L:=fun n m i out=>BQ n m i b out) d.1 (fun n=>amM n b) (fun n m i out=>amN n m i b out) fun x f=>aAx x.1 x.2.1 x.2.2.1 x.2.2.2.1 x.2.2.2.2.1 x.2.2.2.2.2.1 x.2.2.2.2.2.2.1 x.2.2.2.2.2.2.2.1 x.2.2.2.2.2.2.2.2.1 x.2.2.2.2.2.2.2.2.2.1 x.2.2.2.2.2.2.2.2.2.2.1 x.2.2.2.2.2.2.2.2.2.2.2.1 x.2.2.2.2.2.2.2.2.2.2.2.2.1 x.2.2.2.2.2.2.2.2.2.2.2.2.2.1 x.2.2.2.2.2.2.2.2.2.2.2.2.2.2.1 x.2.2.2.2.2.2.2.2.2.2.2.2.2.2.2.1 x.2.2.2.2.2.2.2.2.2.2.2.2.2.2.2.2.1 x.2.2.2.2.2.2.2.2.2.2.2.2.2.2.2.2.2.1 x.2.2.2.2.2.2.2.2.2.2.2.2.2.2.2.2.2.2.1 x.2.2.2.2.2.2.2.2.2.2.2.2.2.2.2.2.2.2.2.1 x.2.2.2.2.2.2.2.2.2.2.2.2.2.2.2.2.2.2.2.2.1 x.2.2.2.2.2.2.2.2.2.2.2.2.2.2.2.2.2.2.2.2.2.1 x.2.2.2.2.2.2.2.2.2.2.2.2.2.2.2.2.2.2.2.2.2.2.1 x.2.2.2.2.2.2.2.2.2.2.2.2.2.2.2.2.2.2.2.2.2.2.2.1 x.2.2.2.2.2.2.2.2.2.2.2.2.2.2.2.2.2.2.2.2.2.2.2.2.1 x.2.2.2.2.2.2.2.2.2.2.2.2.2.2.2.2.2.2.2.2.2.2.2.2.2 (d.2 x f)
theorem aAz (b:Int) (d:O) (_:cA (.cons (.int ß) (.one .str)) (b,d)):W fun n=>JK n b d=ã (b,d):=by
 exact W.succ (W.of fun n=>by rw [anN])
theorem aAA (b:ae) (d:dw aN b):W fun n=>JL n b=ã b:=
 mD (l:=b) (S:=fun x n=>xi n x.1 x.2.1 x.2.2) (L:=fun n m i out=>Cf n m i b out) d.1 (fun n=>anO n b) (fun n m i out=>anP n m i b out) fun x f=>Xp x.1 x.2.1 x.2.2 (d.2 x f)
theorem aAB (f:af) (g:af) (h:ae) (i:ae) (r:Int) (j:ck) (k:bp) (m:Int) (p:O) (q:ag) (b:ag) (d:ae) (u:cA (.cons cE (.cons cE (.cons aN (.cons aN (.cons (.int ß) (.cons gb (.cons eD (.cons (.int ß) (.cons .str (.cons bh (.cons bh (.one aN)))))))))))) (f,g,h,i,r,j,k,m,p,q,b,d)):W fun n=>xh n f g h i r j k m p q b d=ã (f,g,h,i,r,j,k,m,p,q,b,d):=by
 obtain⟨z,s1,s2,s3,s4,s5,s6,s7,s8,s9,s,t⟩:=u;refine W.succ ((((((((aAl f g h i (À z (À s1 (À s2 s3)))).and (aAy j s5)).and (Xt k s6)).and (aAz m p (À s7 s8))).and (yY q s9)).and (yY b s)).and (aAA d t)).mono fun n ⟨⟨⟨⟨⟨⟨h0,h1⟩,h2⟩,h3⟩,h4⟩,h5⟩,h6⟩=> ?_)
 rw [amF];simp only [h0,h1,h2,h3,h4,h5,h6,Z]
theorem Xu (b:af) (d:dw cE b):W fun n=>EF n b b=ã å:=
 mE (l:=b) (S:=fun x y _=>ã (!(!(x==y)))) (L:=fun n m i=>EG n m i b b) d.1 (fun n=>ayJ n b b) (fun n m i=>by rw [ayK];simp only [Z,Â]) fun _ _=>W.of fun _=>Ż
theorem aAC (b:Int) (d:Int) (f:O) (_:cA (.cons (.int ß) (.cons (.int ß) (.one .str))) (b,d,f)):W fun n=>EJ n b d f b d f=ã å:=by
 exact W.succ (W.of fun n=>by rw [ayN];simp)
theorem Xv (b:ae) (d:dw aN b):W fun n=>EH n b b=ã å:=
 mE (l:=b) (S:=fun x y n=>EJ n x.1 x.2.1 x.2.2 y.1 y.2.1 y.2.2) (L:=fun n m i=>EI n m i b b) d.1 (fun n=>ayL n b b) (fun n m i=>ayM n m i b b) fun x f=>aAC x.1 x.2.1 x.2.2 (d.2 x f)
theorem aAD (b:af) (d:af) (f:ae) (g:ae) (h:cA (.cons cE (.cons cE (.cons aN (.one aN)))) (b,d,f,g)):W fun n=>MG n b d f g b d f g=ã å:=by
 obtain⟨i,s1,s2,j⟩:=h;refine W.succ (((((Xu b i).and (Xu d s1)).and (Xv f s2)).and (Xv g j)).mono fun n ⟨⟨⟨k,m⟩,p⟩,q⟩=> ?_)
 rw [ayI];simp [k,m,p,q]
theorem Xw (b:Int) (d:Int) (f:O) (_:cA (.cons (.int ß) (.cons (.int ß) (.one .str))) (b,d,f)):W fun n=>yS n b d f b d f=ã å:=by
 exact W.succ (W.of fun n=>by rw [ayW];simp)
theorem aAE (g:Int) (b:Int) (d:Int) (f:O) (h:cA (.cons (.int ß) (.cons (.int ß) (.cons (.int ß) (.one .str)))) (g,b,d,f)):W fun n=>EO n g b d f g b d f=ã å:=by
 obtain⟨k,s1,s2,i⟩:=h;refine W.succ ((Xw b d f (À s1 (À s2 i))).mono fun n j=> ?_)
 rw [ayV];simp [j]
theorem Xx (b:aj) (d:dw cw b):W fun n=>EM n b b=ã å:=
 mE (l:=b) (S:=fun x y n=>EO n x.1 x.2.1 x.2.2.1 x.2.2.2 y.1 y.2.1 y.2.2.1 y.2.2.2) (L:=fun n m i=>EN n m i b b) d.1 (fun n=>ayT n b b) (fun n m i=>ayU n m i b b) fun x f=>aAE x.1 x.2.1 x.2.2.1 x.2.2.2 (d.2 x f)
theorem aAF (d:Int) (f:Int) (b:aj) (g:cA (.cons (.int ß) (.cons (.int ß) (.one cw))) (d,f,b)):W fun n=>MJ n d f b d f b=ã å:=by
 obtain⟨i,s1,s2⟩:=g;refine W.succ ((Xx b s2).mono fun n h=> ?_)
 rw [ayS];simp [h]
theorem Xy (b:Int) (d:Int) (f:O) (_:cA (.cons (.int ß) (.cons (.int ß) (.one .str))) (b,d,f)):W fun n=>yT n b d f b d f=ã å:=by
 exact W.succ (W.of fun n=>by rw [azB];simp)
theorem aAG (b:ae) (d:dw aN b):W fun n=>ML n b b=ã å:=
 mE (l:=b) (S:=fun x y n=>yT n x.1 x.2.1 x.2.2 y.1 y.2.1 y.2.2) (L:=fun n m i=>ER n m i b b) d.1 (fun n=>ayZ n b b) (fun n m i=>azA n m i b b) fun x f=>Xy x.1 x.2.1 x.2.2 (d.2 x f)
theorem aAH (g:Int) (h:O) (b:Int) (d:Int) (f:O) (i:cA (.cons (.int ß) (.cons .str (.cons (.int ß) (.cons (.int ß) (.one .str))))) (g,h,b,d,f)):W fun n=>ET n g h b d f g h b d f=ã å:=by
 obtain⟨p,s1,s2,j,k⟩:=i;refine W.succ ((Xy b d f (À s2 (À j k))).mono fun n m=> ?_)
 rw [azE];simp [m]
theorem aAI (b:ai) (d:dw bR b):W fun n=>MM n b b=ã å:=
 mE (l:=b) (S:=fun x y n=>ET n x.1 x.2.1 x.2.2.1 x.2.2.2.1 x.2.2.2.2 y.1 y.2.1 y.2.2.1 y.2.2.2.1 y.2.2.2.2) (L:=fun n m i=>ES n m i b b) d.1 (fun n=>azC n b b) (fun n m i=>azD n m i b b) fun x f=>aAH x.1 x.2.1 x.2.2.1 x.2.2.2.1 x.2.2.2.2 (d.2 x f)
theorem aAJ (b:ae) (d:ai) (f:Int) (g:Int) (h:cA (.cons aN (.cons bR (.cons (.int ß) (.one (.int ß))))) (b,d,f,g)):W fun n=>MK n b d f g b d f g=ã å:=by
 obtain⟨i,s1,s2,m⟩:=h;refine W.succ (((aAG b i).and (aAI d s1)).mono fun n ⟨j,k⟩=> ?_)
 rw [ayY];simp [j,k]
theorem yZ (b:ag) (d:dw bh b):W fun n=>sA n b b=ã å:=
 mE (l:=b) (S:=fun x y _=>ã (!(x !=y))) (L:=fun n m i=>EU n m i b b) d.1 (fun n=>azF n b b) (fun n m i=>by rw [azG];simp only [Z,Â]) fun _ _=>W.of fun _=>Ż
theorem Xz (b:ae) (d:ai) (f:Int) (g:Int) (h:ag) (i:O) (j:cA (.cons aN (.cons bR (.cons (.int ß) (.cons (.int ß) (.cons bh (.one .str)))))) (b,d,f,g,h,i)):W fun n=>EP n b d f g h i b d f g h i=ã å:=by
 obtain⟨k,s1,s2,m,p,s⟩:=j;refine W.succ (((aAJ b d f g (À k (À s1 (À s2 m)))).and (yZ h p)).mono fun n ⟨q,r⟩=> ?_)
 rw [ayX];simp [q,r]
theorem aAK (p:Int) (q:Int) (d:Int) (f:Int) (g:aj) (h:ae) (i:ai) (j:Int) (k:Int) (m:ag) (b:O) (s:cA (.cons (.int ß) (.cons (.int ß) (.cons (.int ß) (.cons (.int ß) (.cons cw (.cons aN (.cons bR (.cons (.int ß) (.cons (.int ß) (.cons bh (.one .str))))))))))) (p,q,d,f,g,h,i,j,k,m,b)):W fun n=>MI n p q d f g h i j k m b p q d f g h i j k m b=ã å:=by
 obtain⟨s0,s1,s2,t,u,z,s6,s7,s8,s9,r⟩:=s;refine W.succ (((aAF d f g (À s2 (À t u))).and (Xz h i j k m b (À z (À s6 (À s7 (À s8 (À s9 r))))))).mono fun n ⟨h0,h1⟩=> ?_)
 rw [ayR];simp [h0,h1]
theorem aAL (b:cf) (d:dw iY b):W fun n=>MN n b b=ã å:=
 mE (l:=b) (S:=fun x y _=>ã (!(!(x==y)))) (L:=fun n m i=>EV n m i b b) d.1 (fun n=>azH n b b) (fun n m i=>by rw [azI];simp only [Z,Â]) fun _ _=>W.of fun _=>Ż
theorem aAM (b:aC) (d:dw eT b):W fun n=>MP n b b=ã å:=
 mE (l:=b) (S:=fun x y _=>ã (!(((x).toNat:Int) !=((y).toNat:Int)))) (L:=fun n m i=>EW n m i b b) d.1 (fun n=>azK n b b) (fun n m i=>by rw [azL];simp only [Z,Â]) fun _ _=>W.of fun _=>Ż
theorem aAN (b:aC) (d:Int) (f:cA (.cons eT (.one (.int ß))) (b,d)):W fun n=>MO n b d b d=ã å:=by
 obtain⟨g,s1⟩:=f;refine W.succ ((aAM b g).mono fun n h=> ?_)
 rw [azJ];simp [h]
theorem aAO (d:Int) (f:Int) (g:Int) (h:Int) (i:Int) (j:Int) (k:Int) (b:aj) (m:Bool) (p:O) (q:cA (.cons (.int ß) (.cons (.int ß) (.cons (.int ß) (.cons (.int ß) (.cons (.int ß) (.cons (.int ß) (.cons (.int ß) (.cons cw (.cons .bool (.one .str)))))))))) (d,f,g,h,i,j,k,b,m,p)):W fun n=>EZ n d f g h i j k b m p d f g h i j k b m p=ã å:=by
 obtain⟨t,s1,s2,u,z,s5,s6,r,s8,s9⟩:=q;refine W.succ ((Xx b r).mono fun n s=> ?_)
 rw [azO];simp [s]
theorem XA (b:bp) (d:dw eD b):W fun n=>EX n b b=ã å:=
 mE (l:=b) (S:=fun x y n=>EZ n x.1 x.2.1 x.2.2.1 x.2.2.2.1 x.2.2.2.2.1 x.2.2.2.2.2.1 x.2.2.2.2.2.2.1 x.2.2.2.2.2.2.2.1 x.2.2.2.2.2.2.2.2.1 x.2.2.2.2.2.2.2.2.2 y.1 y.2.1 y.2.2.1 y.2.2.2.1 y.2.2.2.2.1 y.2.2.2.2.2.1 y.2.2.2.2.2.2.1 y.2.2.2.2.2.2.2.1 y.2.2.2.2.2.2.2.2.1 y.2.2.2.2.2.2.2.2.2) (L:=fun n m i=>EY n m i b b) d.1 (fun n=>azM n b b) (fun n m i=>azN n m i b b) fun x f=>aAO x.1 x.2.1 x.2.2.1 x.2.2.2.1 x.2.2.2.2.1 x.2.2.2.2.2.1 x.2.2.2.2.2.2.1 x.2.2.2.2.2.2.2.1 x.2.2.2.2.2.2.2.2.1 x.2.2.2.2.2.2.2.2.2 (d.2 x f)
theorem aAP (x0:Int) (x1:Int) (x2:Int) (x3:Int) (x4:Int) (x5:aj) (x6:ae) (x7:ai) (x8:Int) (x9:Int) (b:ag) (d:O) (u:Int) (f:cf) (g:ag) (h:ag) (z:Int) (i:ae) (j:ai) (k:Int) (m:Int) (p:ag) (q:O) (r:aC) (s:Int) (t:bp) (hs:cA (.cons (.int ß) (.cons (.int ß) (.cons (.int ß) (.cons (.int ß) (.cons (.int ß) (.cons cw (.cons aN (.cons bR (.cons (.int ß) (.cons (.int ß) (.cons bh (.cons .str (.cons (.int ß) (.cons iY (.cons bh (.cons bh (.cons (.int ß) (.cons aN (.cons bR (.cons (.int ß) (.cons (.int ß) (.cons bh (.cons .str (.cons eT (.cons (.int ß) (.one eD)))))))))))))))))))))))))) (x0,x1,x2,x3,x4,x5,x6,x7,x8,x9,b,d,u,f,g,h,z,i,j,k,m,p,q,r,s,t)):W fun n=>EL n x0 x1 x2 x3 x4 x5 x6 x7 x8 x9 b d u f g h z i j k m p q r s t x0 x1 x2 x3 x4 x5 x6 x7 x8 x9 b d u f g h z i j k m p q r s t=ã å:=by
 obtain⟨s0,s1,s2,s3,s4,s5,s6,s7,s8,s9,aw,ax,bu,ay,az,a1,bw,a6,a7,a8,bb,bc,bd,bf,bg,bj⟩:=hs;refine W.succ ((((((((aAK x1 x2 x3 x4 x5 x6 x7 x8 x9 b d (À s1 (À s2 (À s3 (À s4 (À s5 (À s6 (À s7 (À s8 (À s9 (À aw ax))))))))))).and (aAL f ay)).and (yZ g az)).and (yZ h a1)).and (Xz i j k m p q (À a6 (À a7 (À a8 (À bb (À bc bd))))))).and (aAN r s (À bf bg))).and (XA t bj)).mono fun n ⟨⟨⟨⟨⟨⟨h0,h1⟩,h2⟩,h3⟩,h4⟩,h5⟩,h6⟩=> ?_)
 rw [ayQ];simp [h0,h1,h2,h3,h4,h5,h6]
theorem aAQ (b:ck) (d:dw gb b):W fun n=>MH n b b=ã å:=
 mE (l:=b) (S:=fun x y n=>EL n x.1 x.2.1 x.2.2.1 x.2.2.2.1 x.2.2.2.2.1 x.2.2.2.2.2.1 x.2.2.2.2.2.2.1 x.2.2.2.2.2.2.2.1 x.2.2.2.2.2.2.2.2.1 x.2.2.2.2.2.2.2.2.2.1 x.2.2.2.2.2.2.2.2.2.2.1 x.2.2.2.2.2.2.2.2.2.2.2.1 x.2.2.2.2.2.2.2.2.2.2.2.2.1 x.2.2.2.2.2.2.2.2.2.2.2.2.2.1 x.2.2.2.2.2.2.2.2.2.2.2.2.2.2.1 x.2.2.2.2.2.2.2.2.2.2.2.2.2.2.2.1 x.2.2.2.2.2.2.2.2.2.2.2.2.2.2.2.2.1 x.2.2.2.2.2.2.2.2.2.2.2.2.2.2.2.2.2.1 x.2.2.2.2.2.2.2.2.2.2.2.2.2.2.2.2.2.2.1 x.2.2.2.2.2.2.2.2.2.2.2.2.2.2.2.2.2.2.2.1 x.2.2.2.2.2.2.2.2.2.2.2.2.2.2.2.2.2.2.2.2.1 x.2.2.2.2.2.2.2.2.2.2.2.2.2.2.2.2.2.2.2.2.2.1 x.2.2.2.2.2.2.2.2.2.2.2.2.2.2.2.2.2.2.2.2.2.2.1 x.2.2.2.2.2.2.2.2.2.2.2.2.2.2.2.2.2.2.2.2.2.2.2.1 x.2.2.2.2.2.2.2.2.2.2.2.2.2.2.2.2.2.2.2.2.2.2.2.2.1 x.2.2.2.2.2.2.2.2.2.2.2.2.2.2.2.2.2.2.2.2.2.2.2.2.2 y.1 y.2.1 y.2.2.1 y.2.2.2.1 y.2.2.2.2.1 y.2.2.2.2.2.1 y.2.2.2.2.2.2.1 y.2.2.2.2.2.2.2.1 y.2.2.2.2.2.2.2.2.1 y.2.2.2.2.2.2.2.2.2.1 y.2.2.2.2.2.2.2.2.2.2.1 y.2.2.2.2.2.2.2.2.2.2.2.1 y.2.2.2.2.2.2.2.2.2.2.2.2.1 y.2.2.2.2.2.2.2.2.2.2.2.2.2.1 y.2.2.2.2.2.2.2.2.2.2.2.2.2.2.1 y.2.2.2.2.2.2.2.2.2.2.2.2.2.2.2.1 y.2.2.2.2.2.2.2.2.2.2.2.2.2.2.2.2.1 y.2.2.2.2.2.2.2.2.2.2.2.2.2.2.2.2.2.1 y.2.2.2.2.2.2.2.2.2.2.2.2.2.2.2.2.2.2.1 y.2.2.2.2.2.2.2.2.2.2.2.2.2.2.2.2.2.2.2.1 y.2.2.2.2.2.2.2.2.2.2.2.2.2.2.2.2.2.2.2.2.1 y.2.2.2.2.2.2.2.2.2.2.2.2.2.2.2.2.2.2.2.2.2.1 y.2.2.2.2.2.2.2.2.2.2.2.2.2.2.2.2.2.2.2.2.2.2.1 y.2.2.2.2.2.2.2.2.2.2.2.2.2.2.2.2.2.2.2.2.2.2.2.1 y.2.2.2.2.2.2.2.2.2.2.2.2.2.2.2.2.2.2.2.2.2.2.2.2.1 y.2.2.2.2.2.2.2.2.2.2.2.2.2.2.2.2.2.2.2.2.2.2.2.2.2) (L:=fun n m i=>EK n m i b b) d.1 (fun n=>ayO n b b) (fun n m i=>ayP n m i b b) fun x f=>aAP x.1 x.2.1 x.2.2.1 x.2.2.2.1 x.2.2.2.2.1 x.2.2.2.2.2.1 x.2.2.2.2.2.2.1 x.2.2.2.2.2.2.2.1 x.2.2.2.2.2.2.2.2.1 x.2.2.2.2.2.2.2.2.2.1 x.2.2.2.2.2.2.2.2.2.2.1 x.2.2.2.2.2.2.2.2.2.2.2.1 x.2.2.2.2.2.2.2.2.2.2.2.2.1 x.2.2.2.2.2.2.2.2.2.2.2.2.2.1 x.2.2.2.2.2.2.2.2.2.2.2.2.2.2.1 x.2.2.2.2.2.2.2.2.2.2.2.2.2.2.2.1 x.2.2.2.2.2.2.2.2.2.2.2.2.2.2.2.2.1 x.2.2.2.2.2.2.2.2.2.2.2.2.2.2.2.2.2.1 x.2.2.2.2.2.2.2.2.2.2.2.2.2.2.2.2.2.2.1 x.2.2.2.2.2.2.2.2.2.2.2.2.2.2.2.2.2.2.2.1 x.2.2.2.2.2.2.2.2.2.2.2.2.2.2.2.2.2.2.2.2.1 x.2.2.2.2.2.2.2.2.2.2.2.2.2.2.2.2.2.2.2.2.2.1 x.2.2.2.2.2.2.2.2.2.2.2.2.2.2.2.2.2.2.2.2.2.2.1 x.2.2.2.2.2.2.2.2.2.2.2.2.2.2.2.2.2.2.2.2.2.2.2.1 x.2.2.2.2.2.2.2.2.2.2.2.2.2.2.2.2.2.2.2.2.2.2.2.2.1 x.2.2.2.2.2.2.2.2.2.2.2.2.2.2.2.2.2.2.2.2.2.2.2.2.2 (d.2 x f)
theorem aAR (b:Int) (d:O) (_:cA (.cons (.int ß) (.one .str)) (b,d)):W fun n=>MQ n b d b d=ã å:=by
 exact W.succ (W.of fun n=>by rw [azP];simp)
theorem aAS (b:ae) (d:dw aN b):W fun n=>MR n b b=ã å:=
 mE (l:=b) (S:=fun x y n=>yS n x.1 x.2.1 x.2.2 y.1 y.2.1 y.2.2) (L:=fun n m i=>Fa n m i b b) d.1 (fun n=>azQ n b b) (fun n m i=>azR n m i b b) fun x f=>Xw x.1 x.2.1 x.2.2 (d.2 x f)
theorem aAT (f:af) (g:af) (h:ae) (i:ae) (r:Int) (j:ck) (k:bp) (m:Int) (p:O) (q:ag) (b:ag) (d:ae) (u:cA (.cons cE (.cons cE (.cons aN (.cons aN (.cons (.int ß) (.cons gb (.cons eD (.cons (.int ß) (.cons .str (.cons bh (.cons bh (.one aN)))))))))))) (f,g,h,i,r,j,k,m,p,q,b,d)):W fun n=>MF n f g h i r j k m p q b d f g h i r j k m p q b d=ã å:=by
 obtain⟨z,s1,s2,s3,s4,s5,s6,s7,s8,s9,s,t⟩:=u;refine W.succ ((((((((aAD f g h i (À z (À s1 (À s2 s3)))).and (aAQ j s5)).and (XA k s6)).and (aAR m p (À s7 s8))).and (yZ q s9)).and (yZ b s)).and (aAS d t)).mono fun n ⟨⟨⟨⟨⟨⟨h0,h1⟩,h2⟩,h3⟩,h4⟩,h5⟩,h6⟩=> ?_)
 rw [ayH];simp [h0,h1,h2,h3,h4,h5,h6]
end Go.Proofs.YtfledcdkafkgaaaGreatDoor
