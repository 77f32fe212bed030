/- Sizes, copies and comparisons of a law's data. -/
import Derived.Test.YtfpfjmahdneehaaGreatDoorEq
open And renaming intro->À
open Int renaming toNat_natCast->Á
open List renaming getElem_mem->Â,getElem?_eq_some_iff->Ã
open Bool renaming not_true->Ä
open UInt8 renaming ofNat_toNat->Å
namespace Go.Proofs.YtfpfjmahdneehaaGreatDoor
open Go Go.Ev
theorem TF (b:af) (q:dM cE b):W fun n=> ∀d:Int,0<=d->d<=1048576-> ∃v:Int,za n b d=some v/\v<=1048576/\(0<=v->dt cE b):=by
 by_cases hlen:b.length<=1048576
 .have f:=oK (sm:=fun x=>cr (ak cE) x) (l:=b) hlen (L:=fun n m i left=>zd n m i b left) ?_ (fun n m left=>by rw [Qv];simp)
  .refine W.succ (f.mono fun n h d g j=> ?_)
   rw [Qu,eE (cur:=d) (k:=b.length) g j q.1];by_cases c:(d-(b.length:Int))<0
   .rw [hJ c];exact⟨-1,rfl,by omega,fun h=>absurd h (by omega)⟩
   rw [hL c];obtain⟨r,e,k1,k2⟩:=h (d-(b.length:Int)) (by omega) (by omega)
   simp only [ez,e,Z];cases r with
   |inl v=>exact⟨v,rfl,(k1 v rfl).2.1,fun _=>À hlen (k1 v rfl).2.2⟩
   |inr v=>exact⟨v,rfl,by rw [k2 v rfl];omega,fun h=>absurd h (by rw [k2 v rfl];omega)⟩
  .refine W.of fun n m i x left hi s t=> ?_
   obtain⟨p,rfl⟩:=Ã.1 hi
   have u:=q.2 _ (Â p);refine⟨left-(b[i].length:Int), ?_,by omega,fun h=>show b[i].length<=1048576 by omega⟩
   rw [Qv,hJ (by omega),aU p]
   simp only [Y,Z,eE s t u]
 .refine W.succ (W.of fun n d g j=> ?_)
  rw [Qu,eE (cur:=d) (k:=b.length) g j q.1,hJ (by omega)]
  exact⟨-1,rfl,by omega,fun h=>absurd h (by omega)⟩
theorem aAE (g:Int) (i:Int) (b:O) (m:fy (.cons (.int .i64) (.cons (.int .i64) (.one .str))) (g,i,b)):W fun n=> ∀d:Int,0<=d->d<=1048576-> ∃v:Int,Ge n g i b d=some v/\v<=1048576/\(0<=v->cr (.cons (.int .i64) (.cons (.int .i64) (.one .str))) (g,i,b)):=by
 obtain⟨s,t,p⟩:=m;refine W.succ (W.of fun n d q r=> ?_)
 rw [aqA];rw [eE (cur:=d) (k:=b.length) (by omega) (by omega) p]
 obtain⟨v0,j⟩: ∃v:Int,v=d-(b.length:Int):=⟨_,rfl⟩
 rw [<-j];by_cases f:v0<0
 .rw [hJ f];exact⟨-1,rfl,by omega,fun h=>absurd h (by omega)⟩
 rw [hL f];simp only [ez];have t2:b.length<=1048576:=by omega
 exact⟨v0,rfl,by omega,fun _=>(À trivial (À trivial t2))⟩
theorem TG (b:ae) (q:dM aL b):W fun n=> ∀d:Int,0<=d->d<=1048576-> ∃v:Int,zf n b d=some v/\v<=1048576/\(0<=v->dt aL b):=by
 by_cases hlen:b.length<=1048576
 .have f:=oK (sm:=fun x=>cr (ak aL) x) (l:=b) hlen (L:=fun n m i left=>zg n m i left b) ?_ (fun n m left=>by rw [Qx];simp)
  .refine W.succ (f.mono fun n h d g j=> ?_)
   rw [Qw,eE (cur:=d) (k:=b.length) g j q.1];by_cases c:(d-(b.length:Int))<0
   .rw [hJ c];exact⟨-1,rfl,by omega,fun h=>absurd h (by omega)⟩
   rw [hL c];obtain⟨r,e,k1,k2⟩:=h (d-(b.length:Int)) (by omega) (by omega)
   simp only [ez,e,Z];cases r with
   |inl v=>exact⟨v,rfl,(k1 v rfl).2.1,fun _=>À hlen (k1 v rfl).2.2⟩
   |inr v=>exact⟨v,rfl,by rw [k2 v rfl];omega,fun h=>absurd h (by rw [k2 v rfl];omega)⟩
  .refine(W.all b fun x s=>aAE x.1 x.2.1 x.2.2 (q.2 x s)).mono fun n h m i x left hi t u=> ?_
   obtain⟨p,rfl⟩:=Ã.1 hi
   obtain⟨v,e,k1,k2⟩:=h _ (Â p) left t u;refine⟨v, ?_,k1,k2⟩
   rw [Qx,hJ (by omega),aU p]
   simp only [Y,Z,e]
 .refine W.succ (W.of fun n d g j=> ?_)
  rw [Qw,eE (cur:=d) (k:=b.length) g j q.1,hJ (by omega)]
  exact⟨-1,rfl,by omega,fun h=>absurd h (by omega)⟩
theorem aAF (j:af) (k:af) (m:ae) (p:ae) (ho:fy (.cons cE (.cons cE (.cons aL (.one aL)))) (j,k,m,p)):W fun n=> ∀b:Int,0<=b->b<=1048576-> ∃v:Int,Gd n j k m p b=some v/\v<=1048576/\(0<=v->cr (.cons cE (.cons cE (.cons aL (.one aL)))) (j,k,m,p)):=by
 obtain⟨o0,o1,o2,o3⟩:=ho;refine W.succ (((((TF j o0).and (TF k o1)).and (TG m o2)).and (TG p o3)).mono fun n ⟨⟨⟨h0,h1⟩,h2⟩,h3⟩ b av aw=> ?_)
 rw [apZ];obtain⟨v0,q,ax,r⟩:=h0 b (by omega) (by omega)
 rw [q];simp only [Z];by_cases d:v0<0
 .rw [hJ d];exact⟨-1,rfl,by omega,fun h=>absurd h (by omega)⟩
 rw [hL d];simp only [ez];have t0:=r (by omega)
 obtain⟨v1,s,ay,t⟩:=h1 v0 (by omega) (by omega)
 rw [s];simp only [Z];by_cases f:v1<0
 .rw [hJ f];exact⟨-1,rfl,by omega,fun h=>absurd h (by omega)⟩
 rw [hL f];simp only [ez];have t1:=t (by omega)
 obtain⟨v2,u,az,z⟩:=h2 v1 (by omega) (by omega)
 rw [u];simp only [Z];by_cases g:v2<0
 .rw [hJ g];exact⟨-1,rfl,by omega,fun h=>absurd h (by omega)⟩
 rw [hL g];simp only [ez];have t2:=z (by omega)
 obtain⟨v3,ad,a1,ag⟩:=h3 v2 (by omega) (by omega)
 rw [ad];simp only [Z];by_cases i:v3<0
 .rw [hJ i];exact⟨-1,rfl,by omega,fun h=>absurd h (by omega)⟩
 rw [hL i];simp only [ez];have t3:=ag (by omega)
 exact⟨v3,rfl,by omega,fun _=>(À t0 (À t1 (À t2 t3)))⟩
theorem TH (g:Int) (i:Int) (b:O) (m:fy (.cons (.int .i64) (.cons (.int .i64) (.one .str))) (g,i,b)):W fun n=> ∀d:Int,0<=d->d<=1048576-> ∃v:Int,zk n g i b d=some v/\v<=1048576/\(0<=v->cr (.cons (.int .i64) (.cons (.int .i64) (.one .str))) (g,i,b)):=by
 obtain⟨s,t,p⟩:=m;refine W.succ (W.of fun n d q r=> ?_)
 rw [aqF];rw [eE (cur:=d) (k:=b.length) (by omega) (by omega) p]
 obtain⟨v0,j⟩: ∃v:Int,v=d-(b.length:Int):=⟨_,rfl⟩
 rw [<-j];by_cases f:v0<0
 .rw [hJ f];exact⟨-1,rfl,by omega,fun h=>absurd h (by omega)⟩
 rw [hL f];simp only [ez];have t2:b.length<=1048576:=by omega
 exact⟨v0,rfl,by omega,fun _=>(À trivial (À trivial t2))⟩
theorem aAG (j:Int) (f:Int) (g:Int) (i:O) (p:fy (.cons (.int .i64) (.cons (.int .i64) (.cons (.int .i64) (.one .str)))) (j,f,g,i)):W fun n=> ∀b:Int,0<=b->b<=1048576-> ∃v:Int,Gj n j f g i b=some v/\v<=1048576/\(0<=v->cr (.cons (.int .i64) (.cons (.int .i64) (.cons (.int .i64) (.one .str)))) (j,f,g,i)):=by
 obtain⟨o0,q,r,s⟩:=p;refine W.succ ((TH f g i (À q (À r s))).mono fun n t b u z=> ?_)
 rw [aqE];obtain⟨v0,k,ad,m⟩:=t b (by omega) (by omega)
 rw [k];simp only [Z];by_cases d:v0<0
 .rw [hJ d];exact⟨-1,rfl,by omega,fun h=>absurd h (by omega)⟩
 rw [hL d];simp only [ez];obtain⟨t1,t2,t3⟩:=m (by omega)
 exact⟨v0,rfl,by omega,fun _=>(À trivial (À t1 (À t2 t3)))⟩
theorem TI (b:aW) (q:dM cX b):W fun n=> ∀d:Int,0<=d->d<=1048576-> ∃v:Int,zi n b d=some v/\v<=1048576/\(0<=v->dt cX b):=by
 by_cases hlen:b.length<=1048576
 .have f:=oK (sm:=fun x=>cr (ak cX) x) (l:=b) hlen (L:=fun n m i left=>zj n m i left b) ?_ (fun n m left=>by rw [QB];simp)
  .refine W.succ (f.mono fun n h d g j=> ?_)
   rw [QA,eE (cur:=d) (k:=b.length) g j q.1];by_cases c:(d-(b.length:Int))<0
   .rw [hJ c];exact⟨-1,rfl,by omega,fun h=>absurd h (by omega)⟩
   rw [hL c];obtain⟨r,e,k1,k2⟩:=h (d-(b.length:Int)) (by omega) (by omega)
   simp only [ez,e,Z];cases r with
   |inl v=>exact⟨v,rfl,(k1 v rfl).2.1,fun _=>À hlen (k1 v rfl).2.2⟩
   |inr v=>exact⟨v,rfl,by rw [k2 v rfl];omega,fun h=>absurd h (by rw [k2 v rfl];omega)⟩
  .refine(W.all b fun x s=>aAG x.1 x.2.1 x.2.2.1 x.2.2.2 (q.2 x s)).mono fun n h m i x left hi t u=> ?_
   obtain⟨p,rfl⟩:=Ã.1 hi
   obtain⟨v,e,k1,k2⟩:=h _ (Â p) left t u;refine⟨v, ?_,k1,k2⟩
   rw [QB,hJ (by omega),aU p]
   simp only [Y,Z,e]
 .refine W.succ (W.of fun n d g j=> ?_)
  rw [QA,eE (cur:=d) (k:=b.length) g j q.1,hJ (by omega)]
  exact⟨-1,rfl,by omega,fun h=>absurd h (by omega)⟩
theorem aAH (g:Int) (i:Int) (f:aW) (m:fy (.cons (.int .i64) (.cons (.int .i64) (.one cX))) (g,i,f)):W fun n=> ∀b:Int,0<=b->b<=1048576-> ∃v:Int,Gi n g i f b=some v/\v<=1048576/\(0<=v->cr (.cons (.int .i64) (.cons (.int .i64) (.one cX))) (g,i,f)):=by
 obtain⟨u,z,p⟩:=m;refine W.succ ((TI f p).mono fun n q b r s=> ?_)
 rw [aqD];obtain⟨v0,j,t,k⟩:=q b (by omega) (by omega)
 rw [j];simp only [Z];by_cases d:v0<0
 .rw [hJ d];exact⟨-1,rfl,by omega,fun h=>absurd h (by omega)⟩
 rw [hL d];simp only [ez];have t2:=k (by omega)
 exact⟨v0,rfl,by omega,fun _=>(À trivial (À trivial t2))⟩
theorem TJ (g:Int) (i:Int) (b:O) (m:fy (.cons (.int .i64) (.cons (.int .i64) (.one .str))) (g,i,b)):W fun n=> ∀d:Int,0<=d->d<=1048576-> ∃v:Int,zn n g i b d=some v/\v<=1048576/\(0<=v->cr (.cons (.int .i64) (.cons (.int .i64) (.one .str))) (g,i,b)):=by
 obtain⟨s,t,p⟩:=m;refine W.succ (W.of fun n d q r=> ?_)
 rw [aqI];rw [eE (cur:=d) (k:=b.length) (by omega) (by omega) p]
 obtain⟨v0,j⟩: ∃v:Int,v=d-(b.length:Int):=⟨_,rfl⟩
 rw [<-j];by_cases f:v0<0
 .rw [hJ f];exact⟨-1,rfl,by omega,fun h=>absurd h (by omega)⟩
 rw [hL f];simp only [ez];have t2:b.length<=1048576:=by omega
 exact⟨v0,rfl,by omega,fun _=>(À trivial (À trivial t2))⟩
theorem aAI (b:ae) (q:dM aL b):W fun n=> ∀d:Int,0<=d->d<=1048576-> ∃v:Int,Gl n b d=some v/\v<=1048576/\(0<=v->dt aL b):=by
 by_cases hlen:b.length<=1048576
 .have f:=oK (sm:=fun x=>cr (ak aL) x) (l:=b) hlen (L:=fun n m i left=>zm n m i left b) ?_ (fun n m left=>by rw [QD];simp)
  .refine W.succ (f.mono fun n h d g j=> ?_)
   rw [QC,eE (cur:=d) (k:=b.length) g j q.1];by_cases c:(d-(b.length:Int))<0
   .rw [hJ c];exact⟨-1,rfl,by omega,fun h=>absurd h (by omega)⟩
   rw [hL c];obtain⟨r,e,k1,k2⟩:=h (d-(b.length:Int)) (by omega) (by omega)
   simp only [ez,e,Z];cases r with
   |inl v=>exact⟨v,rfl,(k1 v rfl).2.1,fun _=>À hlen (k1 v rfl).2.2⟩
   |inr v=>exact⟨v,rfl,by rw [k2 v rfl];omega,fun h=>absurd h (by rw [k2 v rfl];omega)⟩
  .refine(W.all b fun x s=>TJ x.1 x.2.1 x.2.2 (q.2 x s)).mono fun n h m i x left hi t u=> ?_
   obtain⟨p,rfl⟩:=Ã.1 hi
   obtain⟨v,e,k1,k2⟩:=h _ (Â p) left t u;refine⟨v, ?_,k1,k2⟩
   rw [QD,hJ (by omega),aU p]
   simp only [Y,Z,e]
 .refine W.succ (W.of fun n d g j=> ?_)
  rw [QC,eE (cur:=d) (k:=b.length) g j q.1,hJ (by omega)]
  exact⟨-1,rfl,by omega,fun h=>absurd h (by omega)⟩
theorem aAJ (p:Int) (b:O) (i:Int) (j:Int) (m:O) (t:fy (.cons (.int .i64) (.cons .str (.cons (.int .i64) (.cons (.int .i64) (.one .str))))) (p,b,i,j,m)):W fun n=> ∀d:Int,0<=d->d<=1048576-> ∃v:Int,Gn n p b i j m d=some v/\v<=1048576/\(0<=v->cr (.cons (.int .i64) (.cons .str (.cons (.int .i64) (.cons (.int .i64) (.one .str))))) (p,b,i,j,m)):=by
 obtain⟨o0,u,z,o3,o4⟩:=t;refine W.succ ((TJ i j m (À z (À o3 o4))).mono fun n h0 d ag ah=> ?_)
 rw [aqJ];rw [eE (cur:=d) (k:=b.length) (by omega) (by omega) u]
 obtain⟨v0,q⟩: ∃v:Int,v=d-(b.length:Int):=⟨_,rfl⟩
 rw [<-q];by_cases f:v0<0
 .rw [hJ f];exact⟨-1,rfl,by omega,fun h=>absurd h (by omega)⟩
 rw [hL f];simp only [ez];have t1:b.length<=1048576:=by omega
 obtain⟨v1,r,ai,s⟩:=h0 v0 (by omega) (by omega)
 rw [r];simp only [Z];by_cases g:v1<0
 .rw [hJ g];exact⟨-1,rfl,by omega,fun h=>absurd h (by omega)⟩
 rw [hL g];simp only [ez];obtain⟨t2,t3,t4⟩:=s (by omega)
 exact⟨v1,rfl,by omega,fun _=>(À trivial (À t1 (À t2 (À t3 t4))))⟩
theorem aAK (b:ai) (q:dM bQ b):W fun n=> ∀d:Int,0<=d->d<=1048576-> ∃v:Int,Gm n b d=some v/\v<=1048576/\(0<=v->dt bQ b):=by
 by_cases hlen:b.length<=1048576
 .have f:=oK (sm:=fun x=>cr (ak bQ) x) (l:=b) hlen (L:=fun n m i left=>zo n m i left b) ?_ (fun n m left=>by rw [QF];simp)
  .refine W.succ (f.mono fun n h d g j=> ?_)
   rw [QE,eE (cur:=d) (k:=b.length) g j q.1];by_cases c:(d-(b.length:Int))<0
   .rw [hJ c];exact⟨-1,rfl,by omega,fun h=>absurd h (by omega)⟩
   rw [hL c];obtain⟨r,e,k1,k2⟩:=h (d-(b.length:Int)) (by omega) (by omega)
   simp only [ez,e,Z];cases r with
   |inl v=>exact⟨v,rfl,(k1 v rfl).2.1,fun _=>À hlen (k1 v rfl).2.2⟩
   |inr v=>exact⟨v,rfl,by rw [k2 v rfl];omega,fun h=>absurd h (by rw [k2 v rfl];omega)⟩
  .refine(W.all b fun x s=>aAJ x.1 x.2.1 x.2.2.1 x.2.2.2.1 x.2.2.2.2 (q.2 x s)).mono fun n h m i x left hi t u=> ?_
   obtain⟨p,rfl⟩:=Ã.1 hi
   obtain⟨v,e,k1,k2⟩:=h _ (Â p) left t u;refine⟨v, ?_,k1,k2⟩
   rw [QF,hJ (by omega),aU p]
   simp only [Y,Z,e]
 .refine W.succ (W.of fun n d g j=> ?_)
  rw [QE,eE (cur:=d) (k:=b.length) g j q.1,hJ (by omega)]
  exact⟨-1,rfl,by omega,fun h=>absurd h (by omega)⟩
theorem aAL (g:ae) (i:ai) (j:Int) (k:Int) (s:fy (.cons aL (.cons bQ (.cons (.int .i64) (.one (.int .i64))))) (g,i,j,k)):W fun n=> ∀b:Int,0<=b->b<=1048576-> ∃v:Int,Gk n g i j k b=some v/\v<=1048576/\(0<=v->cr (.cons aL (.cons bQ (.cons (.int .i64) (.one (.int .i64))))) (g,i,j,k)):=by
 obtain⟨t,u,o2,o3⟩:=s;refine W.succ (((aAI g t).and (aAK i u)).mono fun n ⟨z,h1⟩ b af ag=> ?_)
 rw [aqH];obtain⟨v0,m,ah,p⟩:=z b (by omega) (by omega)
 rw [m];simp only [Z];by_cases d:v0<0
 .rw [hJ d];exact⟨-1,rfl,by omega,fun h=>absurd h (by omega)⟩
 rw [hL d];simp only [ez];have t0:=p (by omega)
 obtain⟨v1,q,aj,r⟩:=h1 v0 (by omega) (by omega)
 rw [q];simp only [Z];by_cases f:v1<0
 .rw [hJ f];exact⟨-1,rfl,by omega,fun h=>absurd h (by omega)⟩
 rw [hL f];simp only [ez];have t1:=r (by omega)
 exact⟨v1,rfl,by omega,fun _=>(À t0 (À t1 (À trivial trivial)))⟩
theorem xe (b:ag) (i:dM bn b):W fun n=> ∀d:Int,0<=d->d<=1048576-> ∃v:Int,qK n b d=some v/\v<=1048576/\(0<=v->dt bn b):=by
 refine W.succ (W.of fun n d f g=> ?_)
 rw [aqK,eE (cur:=d) (k:=b.length) f g i.1];by_cases c:(d-(b.length:Int))<0
 .rw [hJ c];exact⟨-1,rfl,by omega,fun h=>absurd h (by omega)⟩
 rw [hL c];exact⟨_,rfl,by omega,fun _=>À (show b.length<=1048576 by omega) (fun _ _=>trivial)⟩
theorem TK (j:ae) (m:ai) (p:Int) (q:Int) (r:ag) (b:O) (ho:fy (.cons aL (.cons bQ (.cons (.int .i64) (.cons (.int .i64) (.cons bn (.one .str)))))) (j,m,p,q,r,b)):W fun n=> ∀d:Int,0<=d->d<=1048576-> ∃v:Int,zl n j m p q r b d=some v/\v<=1048576/\(0<=v->cr (.cons aL (.cons bQ (.cons (.int .i64) (.cons (.int .i64) (.cons bn (.one .str)))))) (j,m,p,q,r,b)):=by
 obtain⟨o0,o1,o2,o3,o4,o5⟩:=ho;refine W.succ (((aAL j m p q (À o0 (À o1 (À o2 o3)))).and (xe r o4)).mono fun n ⟨h0,h1⟩ d av aw=> ?_)
 rw [aqG];obtain⟨v0,s,ax,t⟩:=h0 d (by omega) (by omega)
 rw [s];simp only [Z];by_cases f:v0<0
 .rw [hJ f];exact⟨-1,rfl,by omega,fun h=>absurd h (by omega)⟩
 rw [hL f];simp only [ez];obtain⟨t0,t1,t2,t3⟩:=t (by omega)
 obtain⟨v1,u,ay,z⟩:=h1 v0 (by omega) (by omega)
 rw [u];simp only [Z];by_cases g:v1<0
 .rw [hJ g];exact⟨-1,rfl,by omega,fun h=>absurd h (by omega)⟩
 rw [hL g];simp only [ez];have t4:=z (by omega)
 rw [eE (cur:=v1) (k:=b.length) (by omega) (by omega) o5]
 obtain⟨v2,ad⟩: ∃v:Int,v=v1-(b.length:Int):=⟨_,rfl⟩
 rw [<-ad];by_cases i:v2<0
 .rw [hJ i];exact⟨-1,rfl,by omega,fun h=>absurd h (by omega)⟩
 rw [hL i];simp only [ez];have t5:b.length<=1048576:=by omega
 exact⟨v2,rfl,by omega,fun _=>(À t0 (À t1 (À t2 (À t3 (À t4 t5)))))⟩
theorem aAM (t:Int) (u:Int) (i:Int) (j:Int) (k:aW) (m:ae) (p:ai) (q:Int) (r:Int) (s:ag) (d:O) (ho:fy (.cons (.int .i64) (.cons (.int .i64) (.cons (.int .i64) (.cons (.int .i64) (.cons cX (.cons aL (.cons bQ (.cons (.int .i64) (.cons (.int .i64) (.cons bn (.one .str))))))))))) (t,u,i,j,k,m,p,q,r,s,d)):W fun n=> ∀b:Int,0<=b->b<=1048576-> ∃v:Int,Gh n t u i j k m p q r s d b=some v/\v<=1048576/\(0<=v->cr (.cons (.int .i64) (.cons (.int .i64) (.cons (.int .i64) (.cons (.int .i64) (.cons cX (.cons aL (.cons bQ (.cons (.int .i64) (.cons (.int .i64) (.cons bn (.one .str))))))))))) (t,u,i,j,k,m,p,q,r,s,d)):=by
 obtain⟨o0,o1,o2,o3,o4,o5,o6,o7,o8,o9,z⟩:=ho;refine W.succ (((aAH i j k (À o2 (À o3 o4))).and (TK m p q r s d (À o5 (À o6 (À o7 (À o8 (À o9 z))))))).mono fun n ⟨h0,h1⟩ b a1 a6=> ?_)
 rw [aqC];obtain⟨v0,ad,a7,af⟩:=h0 b (by omega) (by omega)
 rw [ad];simp only [Z];by_cases f:v0<0
 .rw [hJ f];exact⟨-1,rfl,by omega,fun h=>absurd h (by omega)⟩
 rw [hL f];simp only [ez];obtain⟨t2,t3,t4⟩:=af (by omega)
 obtain⟨v1,ah,a8,aj⟩:=h1 v0 (by omega) (by omega)
 rw [ah];simp only [Z];by_cases g:v1<0
 .rw [hJ g];exact⟨-1,rfl,by omega,fun h=>absurd h (by omega)⟩
 rw [hL g];simp only [ez];obtain⟨t5,t6,t7,t8,t9,t10⟩:=aj (by omega)
 exact⟨v1,rfl,by omega,fun _=>(À trivial (À trivial (À t2 (À t3 (À t4 (À t5 (À t6 (À t7 (À t8 (À t9 t10))))))))))⟩
theorem aAN (b:cf) (i:dM ie b):W fun n=> ∀d:Int,0<=d->d<=1048576-> ∃v:Int,Gp n b d=some v/\v<=1048576/\(0<=v->dt ie b):=by
 refine W.succ (W.of fun n d f g=> ?_)
 rw [aqL,eE (cur:=d) (k:=b.length) f g i.1];by_cases c:(d-(b.length:Int))<0
 .rw [hJ c];exact⟨-1,rfl,by omega,fun h=>absurd h (by omega)⟩
 rw [hL c];exact⟨_,rfl,by omega,fun _=>À (show b.length<=1048576 by omega) (fun _ _=>trivial)⟩
theorem aAO (b:bu) (i:dM fb b):W fun n=> ∀d:Int,0<=d->d<=1048576-> ∃v:Int,Gr n b d=some v/\v<=1048576/\(0<=v->dt fb b):=by
 refine W.succ (W.of fun n d f g=> ?_)
 rw [aqN,eE (cur:=d) (k:=b.length) f g i.1];by_cases c:(d-(b.length:Int))<0
 .rw [hJ c];exact⟨-1,rfl,by omega,fun h=>absurd h (by omega)⟩
 rw [hL c];exact⟨_,rfl,by omega,fun _=>À (show b.length<=1048576 by omega) (fun _ _=>trivial)⟩
theorem aAP (f:bu) (g:Int) (k:fy (.cons fb (.one (.int .i64))) (f,g)):W fun n=> ∀b:Int,0<=b->b<=1048576-> ∃v:Int,Gq n f g b=some v/\v<=1048576/\(0<=v->cr (.cons fb (.one (.int .i64))) (f,g)):=by
 obtain⟨m,t⟩:=k;refine W.succ ((aAO f m).mono fun n p b q r=> ?_)
 rw [aqM];obtain⟨v0,i,s,j⟩:=p b (by omega) (by omega)
 rw [i];simp only [Z];by_cases d:v0<0
 .rw [hJ d];exact⟨-1,rfl,by omega,fun h=>absurd h (by omega)⟩
 rw [hL d];simp only [ez];have t0:=j (by omega)
 exact⟨v0,rfl,by omega,fun _=>(À t0 trivial)⟩
theorem aAQ (j:Int) (m:Int) (p:Int) (q:Int) (r:Int) (s:Int) (t:Int) (i:aW) (u:Bool) (d:O) (ho:fy (.cons (.int .i64) (.cons (.int .i64) (.cons (.int .i64) (.cons (.int .i64) (.cons (.int .i64) (.cons (.int .i64) (.cons (.int .i64) (.cons cX (.cons .bool (.one .str)))))))))) (j,m,p,q,r,s,t,i,u,d)):W fun n=> ∀b:Int,0<=b->b<=1048576-> ∃v:Int,Gs n j m p q r s t i u d b=some v/\v<=1048576/\(0<=v->cr (.cons (.int .i64) (.cons (.int .i64) (.cons (.int .i64) (.cons (.int .i64) (.cons (.int .i64) (.cons (.int .i64) (.cons (.int .i64) (.cons cX (.cons .bool (.one .str)))))))))) (j,m,p,q,r,s,t,i,u,d)):=by
 obtain⟨o0,o1,o2,o3,o4,o5,o6,o7,o8,o9⟩:=ho;refine W.succ ((TI i o7).mono fun n h0 b aj ak=> ?_)
 rw [aqO];obtain⟨v0,z,al,ad⟩:=h0 b (by omega) (by omega)
 rw [z];simp only [Z];by_cases f:v0<0
 .rw [hJ f];exact⟨-1,rfl,by omega,fun h=>absurd h (by omega)⟩
 rw [hL f];simp only [ez];have t7:=ad (by omega)
 rw [eE (cur:=v0) (k:=d.length) (by omega) (by omega) o9]
 obtain⟨v1,ae⟩: ∃v:Int,v=v0-(d.length:Int):=⟨_,rfl⟩
 rw [<-ae];by_cases g:v1<0
 .rw [hJ g];exact⟨-1,rfl,by omega,fun h=>absurd h (by omega)⟩
 rw [hL g];simp only [ez];have t9:d.length<=1048576:=by omega
 exact⟨v1,rfl,by omega,fun _=>(À trivial (À trivial (À trivial (À trivial (À trivial (À trivial (À trivial (À t7 (À trivial t9)))))))))⟩
theorem TL (b:bh) (q:dM ei b):W fun n=> ∀d:Int,0<=d->d<=1048576-> ∃v:Int,zp n b d=some v/\v<=1048576/\(0<=v->dt ei b):=by
 by_cases hlen:b.length<=1048576
 .have f:=oK (sm:=fun x=>cr (ak ei) x) (l:=b) hlen (L:=fun n m i left=>zq n m i left b) ?_ (fun n m left=>by rw [QH];simp)
  .refine W.succ (f.mono fun n h d g j=> ?_)
   rw [QG,eE (cur:=d) (k:=b.length) g j q.1];by_cases c:(d-(b.length:Int))<0
   .rw [hJ c];exact⟨-1,rfl,by omega,fun h=>absurd h (by omega)⟩
   rw [hL c];obtain⟨r,e,k1,k2⟩:=h (d-(b.length:Int)) (by omega) (by omega)
   simp only [ez,e,Z];cases r with
   |inl v=>exact⟨v,rfl,(k1 v rfl).2.1,fun _=>À hlen (k1 v rfl).2.2⟩
   |inr v=>exact⟨v,rfl,by rw [k2 v rfl];omega,fun h=>absurd h (by rw [k2 v rfl];omega)⟩
  .refine(W.all b fun x s=>aAQ x.1 x.2.1 x.2.2.1 x.2.2.2.1 x.2.2.2.2.1 x.2.2.2.2.2.1 x.2.2.2.2.2.2.1 x.2.2.2.2.2.2.2.1 x.2.2.2.2.2.2.2.2.1 x.2.2.2.2.2.2.2.2.2 (q.2 x s)).mono fun n h m i x left hi t u=> ?_
   obtain⟨p,rfl⟩:=Ã.1 hi
   obtain⟨v,e,k1,k2⟩:=h _ (Â p) left t u;refine⟨v, ?_,k1,k2⟩
   rw [QH,hJ (by omega),aU p]
   simp only [Y,Z,e]
 .refine W.succ (W.of fun n d g j=> ?_)
  rw [QG,eE (cur:=d) (k:=b.length) g j q.1,hJ (by omega)]
  exact⟨-1,rfl,by omega,fun h=>absurd h (by omega)⟩
theorem aAR (x0:Int) (x1:Int) (x2:Int) (x3:Int) (x4:Int) (x5:aW) (x6:ae) (x7:ai) (x8:Int) (x9:Int) (d:ag) (f:O) (ad:Int) (g:cf) (i:ag) (j:ag) (af:Int) (k:ae) (m:ai) (p:Int) (q:Int) (r:ag) (s:O) (t:bu) (u:Int) (z:bh) (ho:fy (.cons (.int .i64) (.cons (.int .i64) (.cons (.int .i64) (.cons (.int .i64) (.cons (.int .i64) (.cons cX (.cons aL (.cons bQ (.cons (.int .i64) (.cons (.int .i64) (.cons bn (.cons .str (.cons (.int .i64) (.cons ie (.cons bn (.cons bn (.cons (.int .i64) (.cons aL (.cons bQ (.cons (.int .i64) (.cons (.int .i64) (.cons bn (.cons .str (.cons fb (.cons (.int .i64) (.one ei)))))))))))))))))))))))))) (x0,x1,x2,x3,x4,x5,x6,x7,x8,x9,d,f,ad,g,i,j,af,k,m,p,q,r,s,t,u,z)):W fun n=> ∀b:Int,0<=b->b<=1048576-> ∃v:Int,Gg n x0 x1 x2 x3 x4 x5 x6 x7 x8 x9 d f ad g i j af k m p q r s t u z b=some v/\v<=1048576/\(0<=v->cr (.cons (.int .i64) (.cons (.int .i64) (.cons (.int .i64) (.cons (.int .i64) (.cons (.int .i64) (.cons cX (.cons aL (.cons bQ (.cons (.int .i64) (.cons (.int .i64) (.cons bn (.cons .str (.cons (.int .i64) (.cons ie (.cons bn (.cons bn (.cons (.int .i64) (.cons aL (.cons bQ (.cons (.int .i64) (.cons (.int .i64) (.cons bn (.cons .str (.cons fb (.cons (.int .i64) (.one ei)))))))))))))))))))))))))) (x0,x1,x2,x3,x4,x5,x6,x7,x8,x9,d,f,ad,g,i,j,af,k,m,p,q,r,s,t,u,z)):=by
 obtain⟨o0,o1,o2,o3,o4,o5,o6,o7,o8,o9,bd,bf,c5,bg,bj,bk,c6,bm,bo,bp,bq,br,bt,bw,bx,bz⟩:=ho;refine W.succ ((((((((aAM x1 x2 x3 x4 x5 x6 x7 x8 x9 d f (À o1 (À o2 (À o3 (À o4 (À o5 (À o6 (À o7 (À o8 (À o9 (À bd bf))))))))))).and (aAN g bg)).and (xe i bj)).and (xe j bk)).and (TK k m p q r s (À bm (À bo (À bp (À bq (À br bt))))))).and (aAP t u (À bw bx))).and (TL z bz)).mono fun n ⟨⟨⟨⟨⟨⟨h0,h1⟩,h2⟩,h3⟩,h4⟩,h5⟩,h6⟩ b de df=> ?_)
 rw [aqB];obtain⟨v0,ca,dh,cb⟩:=h0 b (by omega) (by omega)
 rw [ca];simp only [Z];by_cases ah:v0<0
 .rw [hJ ah];exact⟨-1,rfl,by omega,fun h=>absurd h (by omega)⟩
 rw [hL ah];simp only [ez];obtain⟨t1,t2,t3,t4,t5,t6,t7,t8,t9,t10,t11⟩:=cb (by omega)
 obtain⟨v1,cc,di,cg⟩:=h1 v0 (by omega) (by omega)
 rw [cc];simp only [Z];by_cases aj:v1<0
 .rw [hJ aj];exact⟨-1,rfl,by omega,fun h=>absurd h (by omega)⟩
 rw [hL aj];simp only [ez];have t13:=cg (by omega)
 obtain⟨v2,ch,dj,cj⟩:=h2 v1 (by omega) (by omega)
 rw [ch];simp only [Z];by_cases ak:v2<0
 .rw [hJ ak];exact⟨-1,rfl,by omega,fun h=>absurd h (by omega)⟩
 rw [hL ak];simp only [ez];have t14:=cj (by omega)
 obtain⟨v3,ck,dk,cl⟩:=h3 v2 (by omega) (by omega)
 rw [ck];simp only [Z];by_cases al:v3<0
 .rw [hJ al];exact⟨-1,rfl,by omega,fun h=>absurd h (by omega)⟩
 rw [hL al];simp only [ez];have t15:=cl (by omega)
 obtain⟨v4,cm,dm,cn⟩:=h4 v3 (by omega) (by omega)
 rw [cm];simp only [Z];by_cases ao:v4<0
 .rw [hJ ao];exact⟨-1,rfl,by omega,fun h=>absurd h (by omega)⟩
 rw [hL ao];simp only [ez];obtain⟨t17,t18,t19,t20,t21,t22⟩:=cn (by omega)
 obtain⟨v5,cp,dn,cq⟩:=h5 v4 (by omega) (by omega)
 rw [cp];simp only [Z];by_cases aq:v5<0
 .rw [hJ aq];exact⟨-1,rfl,by omega,fun h=>absurd h (by omega)⟩
 rw [hL aq];simp only [ez];obtain⟨t23,t24⟩:=cq (by omega)
 obtain⟨v6,ct,dp,cu⟩:=h6 v5 (by omega) (by omega)
 rw [ct];simp only [Z];by_cases ar:v6<0
 .rw [hJ ar];exact⟨-1,rfl,by omega,fun h=>absurd h (by omega)⟩
 rw [hL ar];simp only [ez];have t25:=cu (by omega)
 exact⟨v6,rfl,by omega,fun _=>(À trivial (À t1 (À t2 (À t3 (À t4 (À t5 (À t6 (À t7 (À t8 (À t9 (À t10 (À t11 (À trivial (À t13 (À t14 (À t15 (À trivial (À t17 (À t18 (À t19 (À t20 (À t21 (À t22 (À t23 (À t24 t25)))))))))))))))))))))))))⟩
theorem aAS (b:bZ) (q:dM fC b):W fun n=> ∀d:Int,0<=d->d<=1048576-> ∃v:Int,Gf n b d=some v/\v<=1048576/\(0<=v->dt fC b):=by
 by_cases hlen:b.length<=1048576
 .have f:=oK (sm:=fun x=>cr (ak fC) x) (l:=b) hlen (L:=fun n m i left=>zh n m i left b) ?_ (fun n m left=>by rw [Qz];simp)
  .refine W.succ (f.mono fun n h d g j=> ?_)
   rw [Qy,eE (cur:=d) (k:=b.length) g j q.1];by_cases c:(d-(b.length:Int))<0
   .rw [hJ c];exact⟨-1,rfl,by omega,fun h=>absurd h (by omega)⟩
   rw [hL c];obtain⟨r,e,k1,k2⟩:=h (d-(b.length:Int)) (by omega) (by omega)
   simp only [ez,e,Z];cases r with
   |inl v=>exact⟨v,rfl,(k1 v rfl).2.1,fun _=>À hlen (k1 v rfl).2.2⟩
   |inr v=>exact⟨v,rfl,by rw [k2 v rfl];omega,fun h=>absurd h (by rw [k2 v rfl];omega)⟩
  .refine(W.all b fun x s=>aAR x.1 x.2.1 x.2.2.1 x.2.2.2.1 x.2.2.2.2.1 x.2.2.2.2.2.1 x.2.2.2.2.2.2.1 x.2.2.2.2.2.2.2.1 x.2.2.2.2.2.2.2.2.1 x.2.2.2.2.2.2.2.2.2.1 x.2.2.2.2.2.2.2.2.2.2.1 x.2.2.2.2.2.2.2.2.2.2.2.1 x.2.2.2.2.2.2.2.2.2.2.2.2.1 x.2.2.2.2.2.2.2.2.2.2.2.2.2.1 x.2.2.2.2.2.2.2.2.2.2.2.2.2.2.1 x.2.2.2.2.2.2.2.2.2.2.2.2.2.2.2.1 x.2.2.2.2.2.2.2.2.2.2.2.2.2.2.2.2.1 x.2.2.2.2.2.2.2.2.2.2.2.2.2.2.2.2.2.1 x.2.2.2.2.2.2.2.2.2.2.2.2.2.2.2.2.2.2.1 x.2.2.2.2.2.2.2.2.2.2.2.2.2.2.2.2.2.2.2.1 x.2.2.2.2.2.2.2.2.2.2.2.2.2.2.2.2.2.2.2.2.1 x.2.2.2.2.2.2.2.2.2.2.2.2.2.2.2.2.2.2.2.2.2.1 x.2.2.2.2.2.2.2.2.2.2.2.2.2.2.2.2.2.2.2.2.2.2.1 x.2.2.2.2.2.2.2.2.2.2.2.2.2.2.2.2.2.2.2.2.2.2.2.1 x.2.2.2.2.2.2.2.2.2.2.2.2.2.2.2.2.2.2.2.2.2.2.2.2.1 x.2.2.2.2.2.2.2.2.2.2.2.2.2.2.2.2.2.2.2.2.2.2.2.2.2 (q.2 x s)).mono fun n h m i x left hi t u=> ?_
   obtain⟨p,rfl⟩:=Ã.1 hi
   obtain⟨v,e,k1,k2⟩:=h _ (Â p) left t u;refine⟨v, ?_,k1,k2⟩
   rw [Qz,hJ (by omega),aU p]
   simp only [Y,Z,e]
 .refine W.succ (W.of fun n d g j=> ?_)
  rw [Qy,eE (cur:=d) (k:=b.length) g j q.1,hJ (by omega)]
  exact⟨-1,rfl,by omega,fun h=>absurd h (by omega)⟩
theorem aAT (g:Int) (b:O) (j:fy (.cons (.int .i64) (.one .str)) (g,b)):W fun n=> ∀d:Int,0<=d->d<=1048576-> ∃v:Int,Gt n g b d=some v/\v<=1048576/\(0<=v->cr (.cons (.int .i64) (.one .str)) (g,b)):=by
 obtain⟨r,m⟩:=j;refine W.succ (W.of fun n d p q=> ?_)
 rw [aqP];rw [eE (cur:=d) (k:=b.length) (by omega) (by omega) m]
 obtain⟨v0,i⟩: ∃v:Int,v=d-(b.length:Int):=⟨_,rfl⟩
 rw [<-i];by_cases f:v0<0
 .rw [hJ f];exact⟨-1,rfl,by omega,fun h=>absurd h (by omega)⟩
 rw [hL f];simp only [ez];have t1:b.length<=1048576:=by omega
 exact⟨v0,rfl,by omega,fun _=>(À trivial t1)⟩
theorem aAU (b:ae) (q:dM aL b):W fun n=> ∀d:Int,0<=d->d<=1048576-> ∃v:Int,Gu n b d=some v/\v<=1048576/\(0<=v->dt aL b):=by
 by_cases hlen:b.length<=1048576
 .have f:=oK (sm:=fun x=>cr (ak aL) x) (l:=b) hlen (L:=fun n m i left=>zr n m i left b) ?_ (fun n m left=>by rw [QJ];simp)
  .refine W.succ (f.mono fun n h d g j=> ?_)
   rw [QI,eE (cur:=d) (k:=b.length) g j q.1];by_cases c:(d-(b.length:Int))<0
   .rw [hJ c];exact⟨-1,rfl,by omega,fun h=>absurd h (by omega)⟩
   rw [hL c];obtain⟨r,e,k1,k2⟩:=h (d-(b.length:Int)) (by omega) (by omega)
   simp only [ez,e,Z];cases r with
   |inl v=>exact⟨v,rfl,(k1 v rfl).2.1,fun _=>À hlen (k1 v rfl).2.2⟩
   |inr v=>exact⟨v,rfl,by rw [k2 v rfl];omega,fun h=>absurd h (by rw [k2 v rfl];omega)⟩
  .refine(W.all b fun x s=>TH x.1 x.2.1 x.2.2 (q.2 x s)).mono fun n h m i x left hi t u=> ?_
   obtain⟨p,rfl⟩:=Ã.1 hi
   obtain⟨v,e,k1,k2⟩:=h _ (Â p) left t u;refine⟨v, ?_,k1,k2⟩
   rw [QJ,hJ (by omega),aU p]
   simp only [Y,Z,e]
 .refine W.succ (W.of fun n d g j=> ?_)
  rw [QI,eE (cur:=d) (k:=b.length) g j q.1,hJ (by omega)]
  exact⟨-1,rfl,by omega,fun h=>absurd h (by omega)⟩
theorem aAV (r:af) (s:af) (t:ae) (u:ae) (x4:Int) (z:bZ) (x6:bh) (x7:Int) (x8:O) (x9:ag) (d:ag) (f:ae) (ho:fy (.cons cE (.cons cE (.cons aL (.cons aL (.cons (.int .i64) (.cons fC (.cons ei (.cons (.int .i64) (.cons .str (.cons bn (.cons bn (.one aL)))))))))))) (r,s,t,u,x4,z,x6,x7,x8,x9,d,f)):W fun n=> ∀b:Int,0<=b->b<=1048576-> ∃v:Int,Gc n r s t u x4 z x6 x7 x8 x9 d f b=some v/\v<=1048576/\(0<=v->cr (.cons cE (.cons cE (.cons aL (.cons aL (.cons (.int .i64) (.cons fC (.cons ei (.cons (.int .i64) (.cons .str (.cons bn (.cons bn (.one aL)))))))))))) (r,s,t,u,x4,z,x6,x7,x8,x9,d,f)):=by
 obtain⟨o0,o1,o2,o3,o4,o5,o6,o7,o8,o9,al,ao⟩:=ho;refine W.succ ((((((((aAF r s t u (À o0 (À o1 (À o2 o3)))).and (aAS z o5)).and (TL x6 o6)).and (aAT x7 x8 (À o7 o8))).and (xe x9 o9)).and (xe d al)).and (aAU f ao)).mono fun n ⟨⟨⟨⟨⟨⟨h0,h1⟩,h2⟩,h3⟩,h4⟩,h5⟩,h6⟩ b cg ch=> ?_)
 rw [apY];obtain⟨v0,aq,cj,ar⟩:=h0 b (by omega) (by omega)
 rw [aq];simp only [Z];by_cases g:v0<0
 .rw [hJ g];exact⟨-1,rfl,by omega,fun h=>absurd h (by omega)⟩
 rw [hL g];simp only [ez];obtain⟨t0,t1,t2,t3⟩:=ar (by omega)
 obtain⟨v1,au,ck,av⟩:=h1 v0 (by omega) (by omega)
 rw [au];simp only [Z];by_cases i:v1<0
 .rw [hJ i];exact⟨-1,rfl,by omega,fun h=>absurd h (by omega)⟩
 rw [hL i];simp only [ez];have t5:=av (by omega)
 obtain⟨v2,aw,cl,ax⟩:=h2 v1 (by omega) (by omega)
 rw [aw];simp only [Z];by_cases j:v2<0
 .rw [hJ j];exact⟨-1,rfl,by omega,fun h=>absurd h (by omega)⟩
 rw [hL j];simp only [ez];have t6:=ax (by omega)
 obtain⟨v3,ay,cm,az⟩:=h3 v2 (by omega) (by omega)
 rw [ay];simp only [Z];by_cases k:v3<0
 .rw [hJ k];exact⟨-1,rfl,by omega,fun h=>absurd h (by omega)⟩
 rw [hL k];simp only [ez];obtain⟨t7,t8⟩:=az (by omega)
 obtain⟨v4,a1,cn,a6⟩:=h4 v3 (by omega) (by omega)
 rw [a1];simp only [Z];by_cases m:v4<0
 .rw [hJ m];exact⟨-1,rfl,by omega,fun h=>absurd h (by omega)⟩
 rw [hL m];simp only [ez];have t9:=a6 (by omega)
 obtain⟨v5,a7,cp,a8⟩:=h5 v4 (by omega) (by omega)
 rw [a7];simp only [Z];by_cases p:v5<0
 .rw [hJ p];exact⟨-1,rfl,by omega,fun h=>absurd h (by omega)⟩
 rw [hL p];simp only [ez];have t10:=a8 (by omega)
 obtain⟨v6,bd,cq,bf⟩:=h6 v5 (by omega) (by omega)
 rw [bd];simp only [Z];by_cases q:v6<0
 .rw [hJ q];exact⟨-1,rfl,by omega,fun h=>absurd h (by omega)⟩
 rw [hL q];simp only [ez];have t11:=bf (by omega)
 exact⟨v6,rfl,by omega,fun _=>(À t0 (À t1 (À t2 (À t3 (À trivial (À t5 (À t6 (À t7 (À t8 (À t9 (À t10 t11)))))))))))⟩
theorem TM (f:af) (j:dt cE f):W fun n=>zt n f=some f:=by
 have hlen:f.length<=1048576:=j.1;have b:=kT (a:=f) (d:=([]:O)) hlen (L:=fun n m i out=>zu n m i f out) ?_ (fun n m out=>by rw [QK];simp)
 .refine W.succ (b.mono fun n h=> ?_)
  rw [aqS,hJ (by unfold aC;omega)]
  simp only [Y,Á,h,Z,aw]
 .refine W.of fun n m i out hi g=> ?_
  rw [QK,hJ (by omega),aU hi]
  simp only [Y,Z];rw [hJ (by omega),fh (l:=out) (by omega)]
  simp only [Y,Z,Á]
theorem aAW (b:Int) (d:Int) (f:O) (_:cr (.cons (.int .i64) (.cons (.int .i64) (.one .str))) (b,d,f)):W fun n=>Gw n b d f=some (b,d,f):=by
 exact W.succ (W.of fun n=>by rw [aqU])
theorem TN (b:ae) (j:dt aL b):W fun n=>zv n b=some b:=by
 have hlen:b.length<=1048576:=j.1;have f:=kT (a:=b) (d:=((0:Int),(0:Int),([]:O))) hlen (L:=fun n m i out=>zw n m i b out) ?_ (fun n m out=>by rw [QL];simp)
 .refine W.succ (f.mono fun n h=> ?_)
  rw [aqT,hJ (by unfold aC;omega)]
  simp only [Y,Á,h,Z,aw]
 .refine(W.all b fun x g=>aAW x.1 x.2.1 x.2.2 (j.2 x g)).mono fun n h m i out hi k=> ?_
  have g:=h _ (Â hi);rw [QL,hJ (by omega),aU hi]
  simp only [Y,Z,g];rw [hJ (by omega),fh (l:=out) (by omega)]
  simp only [Y,Z,Á]
theorem aAX (b:af) (d:af) (f:ae) (g:ae) (h:cr (.cons cE (.cons cE (.cons aL (.one aL)))) (b,d,f,g)):W fun n=>Gv n b d f g=some (b,d,f,g):=by
 obtain⟨i,s1,s2,j⟩:=h;refine W.succ (((((TM b i).and (TM d s1)).and (TN f s2)).and (TN g j)).mono fun n ⟨⟨⟨k,m⟩,p⟩,q⟩=> ?_)
 rw [aqR];simp only [k,m,p,q,Z]
theorem TP (b:Int) (d:Int) (f:O) (_:cr (.cons (.int .i64) (.cons (.int .i64) (.one .str))) (b,d,f)):W fun n=>zC n b d f=some (b,d,f):=by
 exact W.succ (W.of fun n=>by rw [arB])
theorem aAY (g:Int) (b:Int) (d:Int) (f:O) (h:cr (.cons (.int .i64) (.cons (.int .i64) (.cons (.int .i64) (.one .str)))) (g,b,d,f)):W fun n=>GD n g b d f=some (g,b,d,f):=by
 obtain⟨k,s1,s2,i⟩:=h;refine W.succ ((TP b d f (À s1 (À s2 i))).mono fun n j=> ?_)
 rw [arA];simp only [j,Z]
theorem TQ (b:aW) (j:dt cX b):W fun n=>zA n b=some b:=by
 have hlen:b.length<=1048576:=j.1;have f:=kT (a:=b) (d:=((0:Int),(0:Int),(0:Int),([]:O))) hlen (L:=fun n m i out=>zB n m i b out) ?_ (fun n m out=>by rw [QN];simp)
 .refine W.succ (f.mono fun n h=> ?_)
  rw [aqZ,hJ (by unfold aC;omega)]
  simp only [Y,Á,h,Z,aw]
 .refine(W.all b fun x g=>aAY x.1 x.2.1 x.2.2.1 x.2.2.2 (j.2 x g)).mono fun n h m i out hi k=> ?_
  have g:=h _ (Â hi);rw [QN,hJ (by omega),aU hi]
  simp only [Y,Z,g];rw [hJ (by omega),fh (l:=out) (by omega)]
  simp only [Y,Z,Á]
theorem aAZ (d:Int) (f:Int) (b:aW) (g:cr (.cons (.int .i64) (.cons (.int .i64) (.one cX))) (d,f,b)):W fun n=>GC n d f b=some (d,f,b):=by
 obtain⟨i,s1,s2⟩:=g;refine W.succ ((TQ b s2).mono fun n h=> ?_)
 rw [aqY];simp only [h,Z]
theorem TR (b:Int) (d:Int) (f:O) (_:cr (.cons (.int .i64) (.cons (.int .i64) (.one .str))) (b,d,f)):W fun n=>zF n b d f=some (b,d,f):=by
 exact W.succ (W.of fun n=>by rw [arF])
theorem aBa (b:ae) (j:dt aL b):W fun n=>GG n b=some b:=by
 have hlen:b.length<=1048576:=j.1;have f:=kT (a:=b) (d:=((0:Int),(0:Int),([]:O))) hlen (L:=fun n m i out=>zE n m i b out) ?_ (fun n m out=>by rw [QO];simp)
 .refine W.succ (f.mono fun n h=> ?_)
  rw [arE,hJ (by unfold aC;omega)]
  simp only [Y,Á,h,Z,aw]
 .refine(W.all b fun x g=>TR x.1 x.2.1 x.2.2 (j.2 x g)).mono fun n h m i out hi k=> ?_
  have g:=h _ (Â hi);rw [QO,hJ (by omega),aU hi]
  simp only [Y,Z,g];rw [hJ (by omega),fh (l:=out) (by omega)]
  simp only [Y,Z,Á]
theorem aBb (g:Int) (h:O) (b:Int) (d:Int) (f:O) (i:cr (.cons (.int .i64) (.cons .str (.cons (.int .i64) (.cons (.int .i64) (.one .str))))) (g,h,b,d,f)):W fun n=>GI n g h b d f=some (g,h,b,d,f):=by
 obtain⟨p,s1,s2,j,k⟩:=i;refine W.succ ((TR b d f (À s2 (À j k))).mono fun n m=> ?_)
 rw [arH];simp only [m,Z]
theorem aBc (b:ai) (j:dt bQ b):W fun n=>GH n b=some b:=by
 have hlen:b.length<=1048576:=j.1;have f:=kT (a:=b) (d:=((0:Int),([]:O),(0:Int),(0:Int),([]:O))) hlen (L:=fun n m i out=>zG n m i b out) ?_ (fun n m out=>by rw [QP];simp)
 .refine W.succ (f.mono fun n h=> ?_)
  rw [arG,hJ (by unfold aC;omega)]
  simp only [Y,Á,h,Z,aw]
 .refine(W.all b fun x g=>aBb x.1 x.2.1 x.2.2.1 x.2.2.2.1 x.2.2.2.2 (j.2 x g)).mono fun n h m i out hi k=> ?_
  have g:=h _ (Â hi);rw [QP,hJ (by omega),aU hi]
  simp only [Y,Z,g];rw [hJ (by omega),fh (l:=out) (by omega)]
  simp only [Y,Z,Á]
theorem aBd (b:ae) (d:ai) (f:Int) (g:Int) (h:cr (.cons aL (.cons bQ (.cons (.int .i64) (.one (.int .i64))))) (b,d,f,g)):W fun n=>GF n b d f g=some (b,d,f,g):=by
 obtain⟨i,s1,s2,m⟩:=h;refine W.succ (((aBa b i).and (aBc d s1)).mono fun n ⟨j,k⟩=> ?_)
 rw [arD];simp only [j,k,Z]
theorem xf (f:ag) (j:dt bn f):W fun n=>qL n f=some f:=by
 have hlen:f.length<=1048576:=j.1;have b:=kT (a:=f) (d:=(0:Int)) hlen (L:=fun n m i out=>zH n m i f out) ?_ (fun n m out=>by rw [QQ];simp)
 .refine W.succ (b.mono fun n h=> ?_)
  rw [arI,hJ (by unfold aC;omega)]
  simp only [Y,Á,h,Z,aw]
 .refine W.of fun n m i out hi g=> ?_
  rw [QQ,hJ (by omega),aU hi]
  simp only [Y,Z];rw [hJ (by omega),fh (l:=out) (by omega)]
  simp only [Y,Z,Á]
theorem TS (b:ae) (d:ai) (f:Int) (g:Int) (h:ag) (i:O) (j:cr (.cons aL (.cons bQ (.cons (.int .i64) (.cons (.int .i64) (.cons bn (.one .str)))))) (b,d,f,g,h,i)):W fun n=>zD n b d f g h i=some (b,d,f,g,h,i):=by
 obtain⟨k,s1,s2,m,p,s⟩:=j;refine W.succ (((aBd b d f g (À k (À s1 (À s2 m)))).and (xf h p)).mono fun n ⟨q,r⟩=> ?_)
 rw [arC];simp only [q,r,Z]
theorem aBe (p:Int) (q:Int) (d:Int) (f:Int) (g:aW) (h:ae) (i:ai) (j:Int) (k:Int) (m:ag) (b:O) (s:cr (.cons (.int .i64) (.cons (.int .i64) (.cons (.int .i64) (.cons (.int .i64) (.cons cX (.cons aL (.cons bQ (.cons (.int .i64) (.cons (.int .i64) (.cons bn (.one .str))))))))))) (p,q,d,f,g,h,i,j,k,m,b)):W fun n=>Gz n p q d f g h i j k m b=some (p,q,d,f,g,h,i,j,k,m,b):=by
 obtain⟨s0,s1,s2,t,u,z,s6,s7,s8,s9,r⟩:=s;refine W.succ (((aAZ d f g (À s2 (À t u))).and (TS h i j k m b (À z (À s6 (À s7 (À s8 (À s9 r))))))).mono fun n ⟨h0,h1⟩=> ?_)
 rw [aqX];simp only [h0,h1,Z]
theorem aBf (f:cf) (j:dt ie f):W fun n=>GJ n f=some f:=by
 have hlen:f.length<=1048576:=j.1;have b:=kT (a:=f) (d:=false) hlen (L:=fun n m i out=>zI n m i f out) ?_ (fun n m out=>by rw [QR];simp)
 .refine W.succ (b.mono fun n h=> ?_)
  rw [arJ,hJ (by unfold aC;omega)]
  simp only [Y,Á,h,Z,aw]
 .refine W.of fun n m i out hi g=> ?_
  rw [QR,hJ (by omega),aU hi]
  simp only [Y,Z];rw [hJ (by omega),fh (l:=out) (by omega)]
  simp only [Y,Z,Á]
theorem aBg (f:bu) (j:dt fb f):W fun n=>GL n f=some f:=by
 have hlen:f.length<=1048576:=j.1;have b:=kT (a:=f) (d:=(0:UInt8)) hlen (L:=fun n m i out=>zJ n m i f out) ?_ (fun n m out=>by rw [QS];simp)
 .refine W.succ (b.mono fun n h=> ?_)
  rw [arL,hJ (by unfold aC;omega)]
  simp only [Y,Á,h,Z,aw]
 .refine W.of fun n m i out hi g=> ?_
  rw [QS,hJ (by omega),aU hi]
  simp only [Y,Z];rw [hJ (by omega),fh (l:=out) (by omega)]
  simp only [Y,Z,Á,Å]
theorem aBh (b:bu) (d:Int) (f:cr (.cons fb (.one (.int .i64))) (b,d)):W fun n=>GK n b d=some (b,d):=by
 obtain⟨g,s1⟩:=f;refine W.succ ((aBg b g).mono fun n h=> ?_)
 rw [arK];simp only [h,Z]
theorem aBi (d:Int) (f:Int) (g:Int) (h:Int) (i:Int) (j:Int) (k:Int) (b:aW) (m:Bool) (p:O) (q:cr (.cons (.int .i64) (.cons (.int .i64) (.cons (.int .i64) (.cons (.int .i64) (.cons (.int .i64) (.cons (.int .i64) (.cons (.int .i64) (.cons cX (.cons .bool (.one .str)))))))))) (d,f,g,h,i,j,k,b,m,p)):W fun n=>GM n d f g h i j k b m p=some (d,f,g,h,i,j,k,b,m,p):=by
 obtain⟨t,s1,s2,u,z,s5,s6,r,s8,s9⟩:=q;refine W.succ ((TQ b r).mono fun n s=> ?_)
 rw [arN];simp only [s,Z]
theorem TT (b:bh) (j:dt ei b):W fun n=>zK n b=some b:=by
 have hlen:b.length<=1048576:=j.1;have f:=kT (a:=b) (d:=((0:Int),(0:Int),(0:Int),(0:Int),(0:Int),(0:Int),(0:Int),([]:aW),false,([]:O))) hlen (L:=fun n m i out=>zL n m i b out) ?_ (fun n m out=>by rw [QT];simp)
 .refine W.succ (f.mono fun n h=> ?_)
  rw [arM,hJ (by unfold aC;omega)]
  simp only [Y,Á,h,Z,aw]
 .refine(W.all b fun x g=>aBi x.1 x.2.1 x.2.2.1 x.2.2.2.1 x.2.2.2.2.1 x.2.2.2.2.2.1 x.2.2.2.2.2.2.1 x.2.2.2.2.2.2.2.1 x.2.2.2.2.2.2.2.2.1 x.2.2.2.2.2.2.2.2.2 (j.2 x g)).mono fun n h m i out hi k=> ?_
  have g:=h _ (Â hi);rw [QT,hJ (by omega),aU hi]
  simp only [Y,Z,g];rw [hJ (by omega),fh (l:=out) (by omega)]
  simp only [Y,Z,Á]
theorem aBj (x0:Int) (x1:Int) (x2:Int) (x3:Int) (x4:Int) (x5:aW) (x6:ae) (x7:ai) (x8:Int) (x9:Int) (b:ag) (d:O) (u:Int) (f:cf) (g:ag) (h:ag) (z:Int) (i:ae) (j:ai) (k:Int) (m:Int) (p:ag) (q:O) (r:bu) (s:Int) (t:bh) (hs:cr (.cons (.int .i64) (.cons (.int .i64) (.cons (.int .i64) (.cons (.int .i64) (.cons (.int .i64) (.cons cX (.cons aL (.cons bQ (.cons (.int .i64) (.cons (.int .i64) (.cons bn (.cons .str (.cons (.int .i64) (.cons ie (.cons bn (.cons bn (.cons (.int .i64) (.cons aL (.cons bQ (.cons (.int .i64) (.cons (.int .i64) (.cons bn (.cons .str (.cons fb (.cons (.int .i64) (.one ei)))))))))))))))))))))))))) (x0,x1,x2,x3,x4,x5,x6,x7,x8,x9,b,d,u,f,g,h,z,i,j,k,m,p,q,r,s,t)):W fun n=>Gy n x0 x1 x2 x3 x4 x5 x6 x7 x8 x9 b d u f g h z i j k m p q r s t=some (x0,x1,x2,x3,x4,x5,x6,x7,x8,x9,b,d,u,f,g,h,z,i,j,k,m,p,q,r,s,t):=by
 obtain⟨s0,s1,s2,s3,s4,s5,s6,s7,s8,s9,av,aw,bz,ax,ay,az,ca,a1,a6,a7,a8,bd,bf,bg,bj,bk⟩:=hs;refine W.succ ((((((((aBe x1 x2 x3 x4 x5 x6 x7 x8 x9 b d (À s1 (À s2 (À s3 (À s4 (À s5 (À s6 (À s7 (À s8 (À s9 (À av aw))))))))))).and (aBf f ax)).and (xf g ay)).and (xf h az)).and (TS i j k m p q (À a1 (À a6 (À a7 (À a8 (À bd bf))))))).and (aBh r s (À bg bj))).and (TT t bk)).mono fun n ⟨⟨⟨⟨⟨⟨h0,h1⟩,h2⟩,h3⟩,h4⟩,h5⟩,h6⟩=> ?_)
 rw [aqW];simp only [h0,h1,h2,h3,h4,h5,h6,Z]
theorem aBk (b:bZ) (j:dt fC b):W fun n=>Gx n b=some b:=by
 have hlen:b.length<=1048576:=j.1;have f:=kT (a:=b) (d:=((0:Int),(0:Int),(0:Int),(0:Int),(0:Int),([]:aW),([]:ae),([]:ai),(0:Int),(0:Int),([]:ag),([]:O),(0:Int),([]:cf),([]:ag),([]:ag),(0:Int),([]:ae),([]:ai),(0:Int),(0:Int),([]:ag),([]:O),([]:bu),(0:Int),([]:bh))) hlen (L:=fun n m i out=>zx n m i b out) ?_ (fun n m out=>by rw [QM];simp)
 .refine W.succ (f.mono fun n h=> ?_)
  rw [aqV,hJ (by unfold aC;omega)]
  simp only [Y,Á,h,Z,aw]
 .refine(W.all b fun x g=>aBj x.1 x.2.1 x.2.2.1 x.2.2.2.1 x.2.2.2.2.1 x.2.2.2.2.2.1 x.2.2.2.2.2.2.1 x.2.2.2.2.2.2.2.1 x.2.2.2.2.2.2.2.2.1 x.2.2.2.2.2.2.2.2.2.1 x.2.2.2.2.2.2.2.2.2.2.1 x.2.2.2.2.2.2.2.2.2.2.2.1 x.2.2.2.2.2.2.2.2.2.2.2.2.1 x.2.2.2.2.2.2.2.2.2.2.2.2.2.1 x.2.2.2.2.2.2.2.2.2.2.2.2.2.2.1 x.2.2.2.2.2.2.2.2.2.2.2.2.2.2.2.1 x.2.2.2.2.2.2.2.2.2.2.2.2.2.2.2.2.1 x.2.2.2.2.2.2.2.2.2.2.2.2.2.2.2.2.2.1 x.2.2.2.2.2.2.2.2.2.2.2.2.2.2.2.2.2.2.1 x.2.2.2.2.2.2.2.2.2.2.2.2.2.2.2.2.2.2.2.1 x.2.2.2.2.2.2.2.2.2.2.2.2.2.2.2.2.2.2.2.2.1 x.2.2.2.2.2.2.2.2.2.2.2.2.2.2.2.2.2.2.2.2.2.1 x.2.2.2.2.2.2.2.2.2.2.2.2.2.2.2.2.2.2.2.2.2.2.1 x.2.2.2.2.2.2.2.2.2.2.2.2.2.2.2.2.2.2.2.2.2.2.2.1 x.2.2.2.2.2.2.2.2.2.2.2.2.2.2.2.2.2.2.2.2.2.2.2.2.1 x.2.2.2.2.2.2.2.2.2.2.2.2.2.2.2.2.2.2.2.2.2.2.2.2.2 (j.2 x g)).mono fun n h m i out hi k=> ?_
  have g:=h _ (Â hi);rw [QM,hJ (by omega),aU hi]
  simp only [Y,Z,g];rw [hJ (by omega),fh (l:=out) (by omega)]
  simp only [Y,Z,Á]
theorem aBl (b:Int) (d:O) (_:cr (.cons (.int .i64) (.one .str)) (b,d)):W fun n=>GN n b d=some (b,d):=by
 exact W.succ (W.of fun n=>by rw [arO])
theorem aBm (b:ae) (j:dt aL b):W fun n=>GQ n b=some b:=by
 have hlen:b.length<=1048576:=j.1;have f:=kT (a:=b) (d:=((0:Int),(0:Int),([]:O))) hlen (L:=fun n m i out=>zM n m i b out) ?_ (fun n m out=>by rw [QU];simp)
 .refine W.succ (f.mono fun n h=> ?_)
  rw [arP,hJ (by unfold aC;omega)]
  simp only [Y,Á,h,Z,aw]
 .refine(W.all b fun x g=>TP x.1 x.2.1 x.2.2 (j.2 x g)).mono fun n h m i out hi k=> ?_
  have g:=h _ (Â hi);rw [QU,hJ (by omega),aU hi]
  simp only [Y,Z,g];rw [hJ (by omega),fh (l:=out) (by omega)]
  simp only [Y,Z,Á]
theorem aBn (f:af) (g:af) (h:ae) (i:ae) (r:Int) (j:bZ) (k:bh) (m:Int) (p:O) (q:ag) (b:ag) (d:ae) (u:cr (.cons cE (.cons cE (.cons aL (.cons aL (.cons (.int .i64) (.cons fC (.cons ei (.cons (.int .i64) (.cons .str (.cons bn (.cons bn (.one aL)))))))))))) (f,g,h,i,r,j,k,m,p,q,b,d)):W fun n=>vm n f g h i r j k m p q b d=some (f,g,h,i,r,j,k,m,p,q,b,d):=by
 obtain⟨z,s1,s2,s3,s4,s5,s6,s7,s8,s9,s,t⟩:=u;refine W.succ ((((((((aAX f g h i (À z (À s1 (À s2 s3)))).and (aBk j s5)).and (TT k s6)).and (aBl m p (À s7 s8))).and (xf q s9)).and (xf b s)).and (aBm d t)).mono fun n ⟨⟨⟨⟨⟨⟨h0,h1⟩,h2⟩,h3⟩,h4⟩,h5⟩,h6⟩=> ?_)
 rw [aqQ];simp only [h0,h1,h2,h3,h4,h5,h6,Z]
theorem TU (b:af) (f:dt cE b):W fun n=>BM n b b=some true:=by
 have hlen:b.length<=1048576:=f.1;have d:=kV (len:=b.length) hlen (L:=fun n m i=>BN n m i b b) ?_ (fun n m=>by rw [Tc];simp)
 .refine W.succ (d.mono fun n h=> ?_)
  rw [aAa];simp only [bne_self_eq_false,ez,h,Z,aw]
 .refine W.of fun n m i hi=> ?_
  rw [Tc,hJ (by omega),aU hi]
  simp
theorem aBo (b:Int) (d:Int) (f:O) (_:cr (.cons (.int .i64) (.cons (.int .i64) (.one .str))) (b,d,f)):W fun n=>Jo n b d f b d f=some true:=by
 exact W.succ (W.of fun n=>by rw [aAc];simp)
theorem TW (b:ae) (g:dt aL b):W fun n=>BO n b b=some true:=by
 have hlen:b.length<=1048576:=g.1;have d:=kV (len:=b.length) hlen (L:=fun n m i=>BP n m i b b) ?_ (fun n m=>by rw [Td];simp)
 .refine W.succ (d.mono fun n h=> ?_)
  rw [aAb];simp only [bne_self_eq_false,ez,h,Z,aw]
 .refine(W.all b fun x f=>aBo x.1 x.2.1 x.2.2 (g.2 x f)).mono fun n h m i hi=> ?_
  have f:=h _ (Â hi);rw [Td,hJ (by omega),aU hi]
  simp only [Y,Z,f,Ä,ez]
theorem aBp (b:af) (d:af) (f:ae) (g:ae) (h:cr (.cons cE (.cons cE (.cons aL (.one aL)))) (b,d,f,g)):W fun n=>Jn n b d f g b d f g=some true:=by
 obtain⟨i,s1,s2,j⟩:=h;refine W.succ (((((TU b i).and (TU d s1)).and (TW f s2)).and (TW g j)).mono fun n ⟨⟨⟨k,m⟩,p⟩,q⟩=> ?_)
 rw [azZ];simp [k,m,p,q]
theorem TX (b:Int) (d:Int) (f:O) (_:cr (.cons (.int .i64) (.cons (.int .i64) (.one .str))) (b,d,f)):W fun n=>BT n b d f b d f=some true:=by
 exact W.succ (W.of fun n=>by rw [aAj];simp)
theorem aBq (g:Int) (b:Int) (d:Int) (f:O) (h:cr (.cons (.int .i64) (.cons (.int .i64) (.cons (.int .i64) (.one .str)))) (g,b,d,f)):W fun n=>Jt n g b d f g b d f=some true:=by
 obtain⟨k,s1,s2,i⟩:=h;refine W.succ ((TX b d f (À s1 (À s2 i))).mono fun n j=> ?_)
 rw [aAi];simp [j]
theorem TY (b:aW) (g:dt cX b):W fun n=>BR n b b=some true:=by
 have hlen:b.length<=1048576:=g.1;have d:=kV (len:=b.length) hlen (L:=fun n m i=>BS n m i b b) ?_ (fun n m=>by rw [Tf];simp)
 .refine W.succ (d.mono fun n h=> ?_)
  rw [aAh];simp only [bne_self_eq_false,ez,h,Z,aw]
 .refine(W.all b fun x f=>aBq x.1 x.2.1 x.2.2.1 x.2.2.2 (g.2 x f)).mono fun n h m i hi=> ?_
  have f:=h _ (Â hi);rw [Tf,hJ (by omega),aU hi]
  simp only [Y,Z,f,Ä,ez]
theorem aBr (d:Int) (f:Int) (b:aW) (g:cr (.cons (.int .i64) (.cons (.int .i64) (.one cX))) (d,f,b)):W fun n=>Js n d f b d f b=some true:=by
 obtain⟨i,s1,s2⟩:=g;refine W.succ ((TY b s2).mono fun n h=> ?_)
 rw [aAg];simp [h]
theorem TZ (b:Int) (d:Int) (f:O) (_:cr (.cons (.int .i64) (.cons (.int .i64) (.one .str))) (b,d,f)):W fun n=>BW n b d f b d f=some true:=by
 exact W.succ (W.of fun n=>by rw [aAn];simp)
theorem aBs (b:ae) (g:dt aL b):W fun n=>Jv n b b=some true:=by
 have hlen:b.length<=1048576:=g.1;have d:=kV (len:=b.length) hlen (L:=fun n m i=>BV n m i b b) ?_ (fun n m=>by rw [Tg];simp)
 .refine W.succ (d.mono fun n h=> ?_)
  rw [aAm];simp only [bne_self_eq_false,ez,h,Z,aw]
 .refine(W.all b fun x f=>TZ x.1 x.2.1 x.2.2 (g.2 x f)).mono fun n h m i hi=> ?_
  have f:=h _ (Â hi);rw [Tg,hJ (by omega),aU hi]
  simp only [Y,Z,f,Ä,ez]
theorem aBt (g:Int) (h:O) (b:Int) (d:Int) (f:O) (i:cr (.cons (.int .i64) (.cons .str (.cons (.int .i64) (.cons (.int .i64) (.one .str))))) (g,h,b,d,f)):W fun n=>Jx n g h b d f g h b d f=some true:=by
 obtain⟨p,s1,s2,j,k⟩:=i;refine W.succ ((TZ b d f (À s2 (À j k))).mono fun n m=> ?_)
 rw [aAp];simp [m]
theorem aBu (b:ai) (g:dt bQ b):W fun n=>Jw n b b=some true:=by
 have hlen:b.length<=1048576:=g.1;have d:=kV (len:=b.length) hlen (L:=fun n m i=>BX n m i b b) ?_ (fun n m=>by rw [Th];simp)
 .refine W.succ (d.mono fun n h=> ?_)
  rw [aAo];simp only [bne_self_eq_false,ez,h,Z,aw]
 .refine(W.all b fun x f=>aBt x.1 x.2.1 x.2.2.1 x.2.2.2.1 x.2.2.2.2 (g.2 x f)).mono fun n h m i hi=> ?_
  have f:=h _ (Â hi);rw [Th,hJ (by omega),aU hi]
  simp only [Y,Z,f,Ä,ez]
theorem aBv (b:ae) (d:ai) (f:Int) (g:Int) (h:cr (.cons aL (.cons bQ (.cons (.int .i64) (.one (.int .i64))))) (b,d,f,g)):W fun n=>Ju n b d f g b d f g=some true:=by
 obtain⟨i,s1,s2,m⟩:=h;refine W.succ (((aBs b i).and (aBu d s1)).mono fun n ⟨j,k⟩=> ?_)
 rw [aAl];simp [j,k]
theorem xg (b:ag) (f:dt bn b):W fun n=>ra n b b=some true:=by
 have hlen:b.length<=1048576:=f.1;have d:=kV (len:=b.length) hlen (L:=fun n m i=>BY n m i b b) ?_ (fun n m=>by rw [Ti];simp)
 .refine W.succ (d.mono fun n h=> ?_)
  rw [aAq];simp only [bne_self_eq_false,ez,h,Z,aw]
 .refine W.of fun n m i hi=> ?_
  rw [Ti,hJ (by omega),aU hi]
  simp
theorem Ua (b:ae) (d:ai) (f:Int) (g:Int) (h:ag) (i:O) (j:cr (.cons aL (.cons bQ (.cons (.int .i64) (.cons (.int .i64) (.cons bn (.one .str)))))) (b,d,f,g,h,i)):W fun n=>BU n b d f g h i b d f g h i=some true:=by
 obtain⟨k,s1,s2,m,p,s⟩:=j;refine W.succ (((aBv b d f g (À k (À s1 (À s2 m)))).and (xg h p)).mono fun n ⟨q,r⟩=> ?_)
 rw [aAk];simp [q,r]
theorem aBw (p:Int) (q:Int) (d:Int) (f:Int) (g:aW) (h:ae) (i:ai) (j:Int) (k:Int) (m:ag) (b:O) (s:cr (.cons (.int .i64) (.cons (.int .i64) (.cons (.int .i64) (.cons (.int .i64) (.cons cX (.cons aL (.cons bQ (.cons (.int .i64) (.cons (.int .i64) (.cons bn (.one .str))))))))))) (p,q,d,f,g,h,i,j,k,m,b)):W fun n=>Jr n p q d f g h i j k m b p q d f g h i j k m b=some true:=by
 obtain⟨s0,s1,s2,t,u,z,s6,s7,s8,s9,r⟩:=s;refine W.succ (((aBr d f g (À s2 (À t u))).and (Ua h i j k m b (À z (À s6 (À s7 (À s8 (À s9 r))))))).mono fun n ⟨h0,h1⟩=> ?_)
 rw [aAf];simp [h0,h1]
theorem aBx (b:cf) (f:dt ie b):W fun n=>Jy n b b=some true:=by
 have hlen:b.length<=1048576:=f.1;have d:=kV (len:=b.length) hlen (L:=fun n m i=>BZ n m i b b) ?_ (fun n m=>by rw [Tj];simp)
 .refine W.succ (d.mono fun n h=> ?_)
  rw [aAr];simp only [bne_self_eq_false,ez,h,Z,aw]
 .refine W.of fun n m i hi=> ?_
  rw [Tj,hJ (by omega),aU hi]
  simp
theorem aBy (b:bu) (f:dt fb b):W fun n=>JA n b b=some true:=by
 have hlen:b.length<=1048576:=f.1;have d:=kV (len:=b.length) hlen (L:=fun n m i=>Ca n m i b b) ?_ (fun n m=>by rw [Tk];simp)
 .refine W.succ (d.mono fun n h=> ?_)
  rw [aAt];simp only [bne_self_eq_false,ez,h,Z,aw]
 .refine W.of fun n m i hi=> ?_
  rw [Tk,hJ (by omega),aU hi]
  simp
theorem aBz (b:bu) (d:Int) (f:cr (.cons fb (.one (.int .i64))) (b,d)):W fun n=>Jz n b d b d=some true:=by
 obtain⟨g,s1⟩:=f;refine W.succ ((aBy b g).mono fun n h=> ?_)
 rw [aAs];simp [h]
theorem aBA (d:Int) (f:Int) (g:Int) (h:Int) (i:Int) (j:Int) (k:Int) (b:aW) (m:Bool) (p:O) (q:cr (.cons (.int .i64) (.cons (.int .i64) (.cons (.int .i64) (.cons (.int .i64) (.cons (.int .i64) (.cons (.int .i64) (.cons (.int .i64) (.cons cX (.cons .bool (.one .str)))))))))) (d,f,g,h,i,j,k,b,m,p)):W fun n=>JB n d f g h i j k b m p d f g h i j k b m p=some true:=by
 obtain⟨t,s1,s2,u,z,s5,s6,r,s8,s9⟩:=q;refine W.succ ((TY b r).mono fun n s=> ?_)
 rw [aAv];simp [s]
theorem Ub (b:bh) (g:dt ei b):W fun n=>Cb n b b=some true:=by
 have hlen:b.length<=1048576:=g.1;have d:=kV (len:=b.length) hlen (L:=fun n m i=>Cc n m i b b) ?_ (fun n m=>by rw [Tl];simp)
 .refine W.succ (d.mono fun n h=> ?_)
  rw [aAu];simp only [bne_self_eq_false,ez,h,Z,aw]
 .refine(W.all b fun x f=>aBA x.1 x.2.1 x.2.2.1 x.2.2.2.1 x.2.2.2.2.1 x.2.2.2.2.2.1 x.2.2.2.2.2.2.1 x.2.2.2.2.2.2.2.1 x.2.2.2.2.2.2.2.2.1 x.2.2.2.2.2.2.2.2.2 (g.2 x f)).mono fun n h m i hi=> ?_
  have f:=h _ (Â hi);rw [Tl,hJ (by omega),aU hi]
  simp only [Y,Z,f,Ä,ez]
theorem aBB (x0:Int) (x1:Int) (x2:Int) (x3:Int) (x4:Int) (x5:aW) (x6:ae) (x7:ai) (x8:Int) (x9:Int) (b:ag) (d:O) (u:Int) (f:cf) (g:ag) (h:ag) (z:Int) (i:ae) (j:ai) (k:Int) (m:Int) (p:ag) (q:O) (r:bu) (s:Int) (t:bh) (hs:cr (.cons (.int .i64) (.cons (.int .i64) (.cons (.int .i64) (.cons (.int .i64) (.cons (.int .i64) (.cons cX (.cons aL (.cons bQ (.cons (.int .i64) (.cons (.int .i64) (.cons bn (.cons .str (.cons (.int .i64) (.cons ie (.cons bn (.cons bn (.cons (.int .i64) (.cons aL (.cons bQ (.cons (.int .i64) (.cons (.int .i64) (.cons bn (.cons .str (.cons fb (.cons (.int .i64) (.one ei)))))))))))))))))))))))))) (x0,x1,x2,x3,x4,x5,x6,x7,x8,x9,b,d,u,f,g,h,z,i,j,k,m,p,q,r,s,t)):W fun n=>Jq n x0 x1 x2 x3 x4 x5 x6 x7 x8 x9 b d u f g h z i j k m p q r s t x0 x1 x2 x3 x4 x5 x6 x7 x8 x9 b d u f g h z i j k m p q r s t=some true:=by
 obtain⟨s0,s1,s2,s3,s4,s5,s6,s7,s8,s9,av,aw,bz,ax,ay,az,ca,a1,a6,a7,a8,bd,bf,bg,bj,bk⟩:=hs;refine W.succ ((((((((aBw x1 x2 x3 x4 x5 x6 x7 x8 x9 b d (À s1 (À s2 (À s3 (À s4 (À s5 (À s6 (À s7 (À s8 (À s9 (À av aw))))))))))).and (aBx f ax)).and (xg g ay)).and (xg h az)).and (Ua i j k m p q (À a1 (À a6 (À a7 (À a8 (À bd bf))))))).and (aBz r s (À bg bj))).and (Ub t bk)).mono fun n ⟨⟨⟨⟨⟨⟨h0,h1⟩,h2⟩,h3⟩,h4⟩,h5⟩,h6⟩=> ?_)
 rw [aAe];simp [h0,h1,h2,h3,h4,h5,h6]
theorem aBC (b:bZ) (g:dt fC b):W fun n=>Jp n b b=some true:=by
 have hlen:b.length<=1048576:=g.1;have d:=kV (len:=b.length) hlen (L:=fun n m i=>BQ n m i b b) ?_ (fun n m=>by rw [Te];simp)
 .refine W.succ (d.mono fun n h=> ?_)
  rw [aAd];simp only [bne_self_eq_false,ez,h,Z,aw]
 .refine(W.all b fun x f=>aBB x.1 x.2.1 x.2.2.1 x.2.2.2.1 x.2.2.2.2.1 x.2.2.2.2.2.1 x.2.2.2.2.2.2.1 x.2.2.2.2.2.2.2.1 x.2.2.2.2.2.2.2.2.1 x.2.2.2.2.2.2.2.2.2.1 x.2.2.2.2.2.2.2.2.2.2.1 x.2.2.2.2.2.2.2.2.2.2.2.1 x.2.2.2.2.2.2.2.2.2.2.2.2.1 x.2.2.2.2.2.2.2.2.2.2.2.2.2.1 x.2.2.2.2.2.2.2.2.2.2.2.2.2.2.1 x.2.2.2.2.2.2.2.2.2.2.2.2.2.2.2.1 x.2.2.2.2.2.2.2.2.2.2.2.2.2.2.2.2.1 x.2.2.2.2.2.2.2.2.2.2.2.2.2.2.2.2.2.1 x.2.2.2.2.2.2.2.2.2.2.2.2.2.2.2.2.2.2.1 x.2.2.2.2.2.2.2.2.2.2.2.2.2.2.2.2.2.2.2.1 x.2.2.2.2.2.2.2.2.2.2.2.2.2.2.2.2.2.2.2.2.1 x.2.2.2.2.2.2.2.2.2.2.2.2.2.2.2.2.2.2.2.2.2.1 x.2.2.2.2.2.2.2.2.2.2.2.2.2.2.2.2.2.2.2.2.2.2.1 x.2.2.2.2.2.2.2.2.2.2.2.2.2.2.2.2.2.2.2.2.2.2.2.1 x.2.2.2.2.2.2.2.2.2.2.2.2.2.2.2.2.2.2.2.2.2.2.2.2.1 x.2.2.2.2.2.2.2.2.2.2.2.2.2.2.2.2.2.2.2.2.2.2.2.2.2 (g.2 x f)).mono fun n h m i hi=> ?_
  have f:=h _ (Â hi);rw [Te,hJ (by omega),aU hi]
  simp only [Y,Z,f,Ä,ez]
theorem aBD (b:Int) (d:O) (_:cr (.cons (.int .i64) (.one .str)) (b,d)):W fun n=>JC n b d b d=some true:=by
 exact W.succ (W.of fun n=>by rw [aAw];simp)
theorem aBE (b:ae) (g:dt aL b):W fun n=>JD n b b=some true:=by
 have hlen:b.length<=1048576:=g.1;have d:=kV (len:=b.length) hlen (L:=fun n m i=>Cd n m i b b) ?_ (fun n m=>by rw [Tn];simp)
 .refine W.succ (d.mono fun n h=> ?_)
  rw [aAx];simp only [bne_self_eq_false,ez,h,Z,aw]
 .refine(W.all b fun x f=>TX x.1 x.2.1 x.2.2 (g.2 x f)).mono fun n h m i hi=> ?_
  have f:=h _ (Â hi);rw [Tn,hJ (by omega),aU hi]
  simp only [Y,Z,f,Ä,ez]
theorem aBF (f:af) (g:af) (h:ae) (i:ae) (r:Int) (j:bZ) (k:bh) (m:Int) (p:O) (q:ag) (b:ag) (d:ae) (u:cr (.cons cE (.cons cE (.cons aL (.cons aL (.cons (.int .i64) (.cons fC (.cons ei (.cons (.int .i64) (.cons .str (.cons bn (.cons bn (.one aL)))))))))))) (f,g,h,i,r,j,k,m,p,q,b,d)):W fun n=>Jm n f g h i r j k m p q b d f g h i r j k m p q b d=some true:=by
 obtain⟨z,s1,s2,s3,s4,s5,s6,s7,s8,s9,s,t⟩:=u;refine W.succ ((((((((aBp f g h i (À z (À s1 (À s2 s3)))).and (aBC j s5)).and (Ub k s6)).and (aBD m p (À s7 s8))).and (xg q s9)).and (xg b s)).and (aBE d t)).mono fun n ⟨⟨⟨⟨⟨⟨h0,h1⟩,h2⟩,h3⟩,h4⟩,h5⟩,h6⟩=> ?_)
 rw [azY];simp [h0,h1,h2,h3,h4,h5,h6]
end Go.Proofs.YtfpfjmahdneehaaGreatDoor
