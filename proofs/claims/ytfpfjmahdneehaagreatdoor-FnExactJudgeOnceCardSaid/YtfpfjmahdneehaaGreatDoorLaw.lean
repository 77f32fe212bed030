/- Sizes, copies and comparisons of a law's data. -/
import Derived.Test.YtfpfjmahdneehaaGreatDoorEq
open And renaming intro->À
open Int renaming toNat_natCast->Á
open List renaming getElem_mem->Â,getElem?_eq_some_iff->Ã
open Bool renaming not_true->Ä
open UInt8 renaming ofNat_toNat->Å
namespace Go.Proofs.YtfpfjmahdneehaaGreatDoor
open Go Go.Ev
theorem Sq (b:af) (q:dM cE b):W fun n=> ∀d:Int,0<=d->d<=1048576-> ∃v:Int,yw n b d=some v/\v<=1048576/\(0<=v->dq cE b):=by
 by_cases hlen:b.length<=1048576
 .have f:=oq (sm:=fun x=>cp (ak cE) x) (l:=b) hlen (L:=fun n m i left=>yx n m i b left) ?_ (fun n m left=>by rw [Pq];simp)
  .refine W.succ (f.mono fun n h d g j=> ?_)
   rw [Pp,eE (cur:=d) (k:=b.length) g j q.1];by_cases c:(d-(b.length:Int))<0
   .rw [hJ c];exact⟨-1,rfl,by omega,fun h=>absurd h (by omega)⟩
   rw [hL c];obtain⟨r,e,k1,k2⟩:=h (d-(b.length:Int)) (by omega) (by omega)
   simp only [ez,e,Z];cases r with
   |inl v=>exact⟨v,rfl,(k1 v rfl).2.1,fun _=>À hlen (k1 v rfl).2.2⟩
   |inr v=>exact⟨v,rfl,by rw [k2 v rfl];omega,fun h=>absurd h (by rw [k2 v rfl];omega)⟩
  .refine W.of fun n m i x left hi s t=> ?_
   obtain⟨p,rfl⟩:=Ã.1 hi
   have u:=q.2 _ (Â p);refine⟨left-(b[i].length:Int), ?_,by omega,fun h=>show b[i].length<=1048576 by omega⟩
   rw [Pq,hJ (by omega),bg p]
   simp only [Y,Z,eE s t u]
 .refine W.succ (W.of fun n d g j=> ?_)
  rw [Pp,eE (cur:=d) (k:=b.length) g j q.1,hJ (by omega)]
  exact⟨-1,rfl,by omega,fun h=>absurd h (by omega)⟩
theorem ayI (g:Int) (i:Int) (b:O) (m:fv (.cons (.int .i64) (.cons (.int .i64) (.one .str))) (g,i,b)):W fun n=> ∀d:Int,0<=d->d<=1048576-> ∃v:Int,Fl n g i b d=some v/\v<=1048576/\(0<=v->cp (.cons (.int .i64) (.cons (.int .i64) (.one .str))) (g,i,b)):=by
 obtain⟨s,t,p⟩:=m;refine W.succ (W.of fun n d q r=> ?_)
 rw [anK];rw [eE (cur:=d) (k:=b.length) (by omega) (by omega) p]
 obtain⟨v0,j⟩: ∃v:Int,v=d-(b.length:Int):=⟨_,rfl⟩
 rw [<-j];by_cases f:v0<0
 .rw [hJ f];exact⟨-1,rfl,by omega,fun h=>absurd h (by omega)⟩
 rw [hL f];simp only [ez];have t2:b.length<=1048576:=by omega
 exact⟨v0,rfl,by omega,fun _=>(À trivial (À trivial t2))⟩
theorem Sr (b:ae) (q:dM aL b):W fun n=> ∀d:Int,0<=d->d<=1048576-> ∃v:Int,yy n b d=some v/\v<=1048576/\(0<=v->dq aL b):=by
 by_cases hlen:b.length<=1048576
 .have f:=oq (sm:=fun x=>cp (ak aL) x) (l:=b) hlen (L:=fun n m i left=>yz n m i left b) ?_ (fun n m left=>by rw [Ps];simp)
  .refine W.succ (f.mono fun n h d g j=> ?_)
   rw [Pr,eE (cur:=d) (k:=b.length) g j q.1];by_cases c:(d-(b.length:Int))<0
   .rw [hJ c];exact⟨-1,rfl,by omega,fun h=>absurd h (by omega)⟩
   rw [hL c];obtain⟨r,e,k1,k2⟩:=h (d-(b.length:Int)) (by omega) (by omega)
   simp only [ez,e,Z];cases r with
   |inl v=>exact⟨v,rfl,(k1 v rfl).2.1,fun _=>À hlen (k1 v rfl).2.2⟩
   |inr v=>exact⟨v,rfl,by rw [k2 v rfl];omega,fun h=>absurd h (by rw [k2 v rfl];omega)⟩
  .refine(W.all b fun x s=>ayI x.1 x.2.1 x.2.2 (q.2 x s)).mono fun n h m i x left hi t u=> ?_
   obtain⟨p,rfl⟩:=Ã.1 hi
   obtain⟨v,e,k1,k2⟩:=h _ (Â p) left t u;refine⟨v, ?_,k1,k2⟩
   rw [Ps,hJ (by omega),bg p]
   simp only [Y,Z,e]
 .refine W.succ (W.of fun n d g j=> ?_)
  rw [Pr,eE (cur:=d) (k:=b.length) g j q.1,hJ (by omega)]
  exact⟨-1,rfl,by omega,fun h=>absurd h (by omega)⟩
theorem ayJ (j:af) (k:af) (m:ae) (p:ae) (ho:fv (.cons cE (.cons cE (.cons aL (.one aL)))) (j,k,m,p)):W fun n=> ∀b:Int,0<=b->b<=1048576-> ∃v:Int,Fk n j k m p b=some v/\v<=1048576/\(0<=v->cp (.cons cE (.cons cE (.cons aL (.one aL)))) (j,k,m,p)):=by
 obtain⟨o0,o1,o2,o3⟩:=ho;refine W.succ (((((Sq j o0).and (Sq k o1)).and (Sr m o2)).and (Sr p o3)).mono fun n ⟨⟨⟨h0,h1⟩,h2⟩,h3⟩ b av aw=> ?_)
 rw [anJ];obtain⟨v0,q,ax,r⟩:=h0 b (by omega) (by omega)
 rw [q];simp only [Z];by_cases d:v0<0
 .rw [hJ d];exact⟨-1,rfl,by omega,fun h=>absurd h (by omega)⟩
 rw [hL d];simp only [ez];have t0:=r (by omega)
 obtain⟨v1,s,ay,t⟩:=h1 v0 (by omega) (by omega)
 rw [s];simp only [Z];by_cases f:v1<0
 .rw [hJ f];exact⟨-1,rfl,by omega,fun h=>absurd h (by omega)⟩
 rw [hL f];simp only [ez];have t1:=t (by omega)
 obtain⟨v2,u,az,z⟩:=h2 v1 (by omega) (by omega)
 rw [u];simp only [Z];by_cases g:v2<0
 .rw [hJ g];exact⟨-1,rfl,by omega,fun h=>absurd h (by omega)⟩
 rw [hL g];simp only [ez];have t2:=z (by omega)
 obtain⟨v3,ad,a1,ag⟩:=h3 v2 (by omega) (by omega)
 rw [ad];simp only [Z];by_cases i:v3<0
 .rw [hJ i];exact⟨-1,rfl,by omega,fun h=>absurd h (by omega)⟩
 rw [hL i];simp only [ez];have t3:=ag (by omega)
 exact⟨v3,rfl,by omega,fun _=>(À t0 (À t1 (À t2 t3)))⟩
theorem Ss (g:Int) (i:Int) (b:O) (m:fv (.cons (.int .i64) (.cons (.int .i64) (.one .str))) (g,i,b)):W fun n=> ∀d:Int,0<=d->d<=1048576-> ∃v:Int,yD n g i b d=some v/\v<=1048576/\(0<=v->cp (.cons (.int .i64) (.cons (.int .i64) (.one .str))) (g,i,b)):=by
 obtain⟨s,t,p⟩:=m;refine W.succ (W.of fun n d q r=> ?_)
 rw [anP];rw [eE (cur:=d) (k:=b.length) (by omega) (by omega) p]
 obtain⟨v0,j⟩: ∃v:Int,v=d-(b.length:Int):=⟨_,rfl⟩
 rw [<-j];by_cases f:v0<0
 .rw [hJ f];exact⟨-1,rfl,by omega,fun h=>absurd h (by omega)⟩
 rw [hL f];simp only [ez];have t2:b.length<=1048576:=by omega
 exact⟨v0,rfl,by omega,fun _=>(À trivial (À trivial t2))⟩
theorem ayK (j:Int) (f:Int) (g:Int) (i:O) (p:fv (.cons (.int .i64) (.cons (.int .i64) (.cons (.int .i64) (.one .str)))) (j,f,g,i)):W fun n=> ∀b:Int,0<=b->b<=1048576-> ∃v:Int,Fs n j f g i b=some v/\v<=1048576/\(0<=v->cp (.cons (.int .i64) (.cons (.int .i64) (.cons (.int .i64) (.one .str)))) (j,f,g,i)):=by
 obtain⟨o0,q,r,s⟩:=p;refine W.succ ((Ss f g i (À q (À r s))).mono fun n t b u z=> ?_)
 rw [anO];obtain⟨v0,k,ad,m⟩:=t b (by omega) (by omega)
 rw [k];simp only [Z];by_cases d:v0<0
 .rw [hJ d];exact⟨-1,rfl,by omega,fun h=>absurd h (by omega)⟩
 rw [hL d];simp only [ez];obtain⟨t1,t2,t3⟩:=m (by omega)
 exact⟨v0,rfl,by omega,fun _=>(À trivial (À t1 (À t2 t3)))⟩
theorem Su (b:aZ) (q:dM cY b):W fun n=> ∀d:Int,0<=d->d<=1048576-> ∃v:Int,yB n b d=some v/\v<=1048576/\(0<=v->dq cY b):=by
 by_cases hlen:b.length<=1048576
 .have f:=oq (sm:=fun x=>cp (ak cY) x) (l:=b) hlen (L:=fun n m i left=>yC n m i left b) ?_ (fun n m left=>by rw [Pw];simp)
  .refine W.succ (f.mono fun n h d g j=> ?_)
   rw [Pv,eE (cur:=d) (k:=b.length) g j q.1];by_cases c:(d-(b.length:Int))<0
   .rw [hJ c];exact⟨-1,rfl,by omega,fun h=>absurd h (by omega)⟩
   rw [hL c];obtain⟨r,e,k1,k2⟩:=h (d-(b.length:Int)) (by omega) (by omega)
   simp only [ez,e,Z];cases r with
   |inl v=>exact⟨v,rfl,(k1 v rfl).2.1,fun _=>À hlen (k1 v rfl).2.2⟩
   |inr v=>exact⟨v,rfl,by rw [k2 v rfl];omega,fun h=>absurd h (by rw [k2 v rfl];omega)⟩
  .refine(W.all b fun x s=>ayK x.1 x.2.1 x.2.2.1 x.2.2.2 (q.2 x s)).mono fun n h m i x left hi t u=> ?_
   obtain⟨p,rfl⟩:=Ã.1 hi
   obtain⟨v,e,k1,k2⟩:=h _ (Â p) left t u;refine⟨v, ?_,k1,k2⟩
   rw [Pw,hJ (by omega),bg p]
   simp only [Y,Z,e]
 .refine W.succ (W.of fun n d g j=> ?_)
  rw [Pv,eE (cur:=d) (k:=b.length) g j q.1,hJ (by omega)]
  exact⟨-1,rfl,by omega,fun h=>absurd h (by omega)⟩
theorem ayL (g:Int) (i:Int) (f:aZ) (m:fv (.cons (.int .i64) (.cons (.int .i64) (.one cY))) (g,i,f)):W fun n=> ∀b:Int,0<=b->b<=1048576-> ∃v:Int,Fq n g i f b=some v/\v<=1048576/\(0<=v->cp (.cons (.int .i64) (.cons (.int .i64) (.one cY))) (g,i,f)):=by
 obtain⟨u,z,p⟩:=m;refine W.succ ((Su f p).mono fun n q b r s=> ?_)
 rw [anN];obtain⟨v0,j,t,k⟩:=q b (by omega) (by omega)
 rw [j];simp only [Z];by_cases d:v0<0
 .rw [hJ d];exact⟨-1,rfl,by omega,fun h=>absurd h (by omega)⟩
 rw [hL d];simp only [ez];have t2:=k (by omega)
 exact⟨v0,rfl,by omega,fun _=>(À trivial (À trivial t2))⟩
theorem Sv (g:Int) (i:Int) (b:O) (m:fv (.cons (.int .i64) (.cons (.int .i64) (.one .str))) (g,i,b)):W fun n=> ∀d:Int,0<=d->d<=1048576-> ∃v:Int,yG n g i b d=some v/\v<=1048576/\(0<=v->cp (.cons (.int .i64) (.cons (.int .i64) (.one .str))) (g,i,b)):=by
 obtain⟨s,t,p⟩:=m;refine W.succ (W.of fun n d q r=> ?_)
 rw [anS];rw [eE (cur:=d) (k:=b.length) (by omega) (by omega) p]
 obtain⟨v0,j⟩: ∃v:Int,v=d-(b.length:Int):=⟨_,rfl⟩
 rw [<-j];by_cases f:v0<0
 .rw [hJ f];exact⟨-1,rfl,by omega,fun h=>absurd h (by omega)⟩
 rw [hL f];simp only [ez];have t2:b.length<=1048576:=by omega
 exact⟨v0,rfl,by omega,fun _=>(À trivial (À trivial t2))⟩
theorem ayM (b:ae) (q:dM aL b):W fun n=> ∀d:Int,0<=d->d<=1048576-> ∃v:Int,Fu n b d=some v/\v<=1048576/\(0<=v->dq aL b):=by
 by_cases hlen:b.length<=1048576
 .have f:=oq (sm:=fun x=>cp (ak aL) x) (l:=b) hlen (L:=fun n m i left=>yF n m i left b) ?_ (fun n m left=>by rw [Py];simp)
  .refine W.succ (f.mono fun n h d g j=> ?_)
   rw [Px,eE (cur:=d) (k:=b.length) g j q.1];by_cases c:(d-(b.length:Int))<0
   .rw [hJ c];exact⟨-1,rfl,by omega,fun h=>absurd h (by omega)⟩
   rw [hL c];obtain⟨r,e,k1,k2⟩:=h (d-(b.length:Int)) (by omega) (by omega)
   simp only [ez,e,Z];cases r with
   |inl v=>exact⟨v,rfl,(k1 v rfl).2.1,fun _=>À hlen (k1 v rfl).2.2⟩
   |inr v=>exact⟨v,rfl,by rw [k2 v rfl];omega,fun h=>absurd h (by rw [k2 v rfl];omega)⟩
  .refine(W.all b fun x s=>Sv x.1 x.2.1 x.2.2 (q.2 x s)).mono fun n h m i x left hi t u=> ?_
   obtain⟨p,rfl⟩:=Ã.1 hi
   obtain⟨v,e,k1,k2⟩:=h _ (Â p) left t u;refine⟨v, ?_,k1,k2⟩
   rw [Py,hJ (by omega),bg p]
   simp only [Y,Z,e]
 .refine W.succ (W.of fun n d g j=> ?_)
  rw [Px,eE (cur:=d) (k:=b.length) g j q.1,hJ (by omega)]
  exact⟨-1,rfl,by omega,fun h=>absurd h (by omega)⟩
theorem ayN (p:Int) (b:O) (i:Int) (j:Int) (m:O) (t:fv (.cons (.int .i64) (.cons .str (.cons (.int .i64) (.cons (.int .i64) (.one .str))))) (p,b,i,j,m)):W fun n=> ∀d:Int,0<=d->d<=1048576-> ∃v:Int,Fw n p b i j m d=some v/\v<=1048576/\(0<=v->cp (.cons (.int .i64) (.cons .str (.cons (.int .i64) (.cons (.int .i64) (.one .str))))) (p,b,i,j,m)):=by
 obtain⟨o0,u,z,o3,o4⟩:=t;refine W.succ ((Sv i j m (À z (À o3 o4))).mono fun n h0 d ag ah=> ?_)
 rw [anT];rw [eE (cur:=d) (k:=b.length) (by omega) (by omega) u]
 obtain⟨v0,q⟩: ∃v:Int,v=d-(b.length:Int):=⟨_,rfl⟩
 rw [<-q];by_cases f:v0<0
 .rw [hJ f];exact⟨-1,rfl,by omega,fun h=>absurd h (by omega)⟩
 rw [hL f];simp only [ez];have t1:b.length<=1048576:=by omega
 obtain⟨v1,r,ai,s⟩:=h0 v0 (by omega) (by omega)
 rw [r];simp only [Z];by_cases g:v1<0
 .rw [hJ g];exact⟨-1,rfl,by omega,fun h=>absurd h (by omega)⟩
 rw [hL g];simp only [ez];obtain⟨t2,t3,t4⟩:=s (by omega)
 exact⟨v1,rfl,by omega,fun _=>(À trivial (À t1 (À t2 (À t3 t4))))⟩
theorem ayO (b:ai) (q:dM bP b):W fun n=> ∀d:Int,0<=d->d<=1048576-> ∃v:Int,Fv n b d=some v/\v<=1048576/\(0<=v->dq bP b):=by
 by_cases hlen:b.length<=1048576
 .have f:=oq (sm:=fun x=>cp (ak bP) x) (l:=b) hlen (L:=fun n m i left=>yH n m i left b) ?_ (fun n m left=>by rw [PA];simp)
  .refine W.succ (f.mono fun n h d g j=> ?_)
   rw [Pz,eE (cur:=d) (k:=b.length) g j q.1];by_cases c:(d-(b.length:Int))<0
   .rw [hJ c];exact⟨-1,rfl,by omega,fun h=>absurd h (by omega)⟩
   rw [hL c];obtain⟨r,e,k1,k2⟩:=h (d-(b.length:Int)) (by omega) (by omega)
   simp only [ez,e,Z];cases r with
   |inl v=>exact⟨v,rfl,(k1 v rfl).2.1,fun _=>À hlen (k1 v rfl).2.2⟩
   |inr v=>exact⟨v,rfl,by rw [k2 v rfl];omega,fun h=>absurd h (by rw [k2 v rfl];omega)⟩
  .refine(W.all b fun x s=>ayN x.1 x.2.1 x.2.2.1 x.2.2.2.1 x.2.2.2.2 (q.2 x s)).mono fun n h m i x left hi t u=> ?_
   obtain⟨p,rfl⟩:=Ã.1 hi
   obtain⟨v,e,k1,k2⟩:=h _ (Â p) left t u;refine⟨v, ?_,k1,k2⟩
   rw [PA,hJ (by omega),bg p]
   simp only [Y,Z,e]
 .refine W.succ (W.of fun n d g j=> ?_)
  rw [Pz,eE (cur:=d) (k:=b.length) g j q.1,hJ (by omega)]
  exact⟨-1,rfl,by omega,fun h=>absurd h (by omega)⟩
theorem ayP (g:ae) (i:ai) (j:Int) (k:Int) (s:fv (.cons aL (.cons bP (.cons (.int .i64) (.one (.int .i64))))) (g,i,j,k)):W fun n=> ∀b:Int,0<=b->b<=1048576-> ∃v:Int,Ft n g i j k b=some v/\v<=1048576/\(0<=v->cp (.cons aL (.cons bP (.cons (.int .i64) (.one (.int .i64))))) (g,i,j,k)):=by
 obtain⟨t,u,o2,o3⟩:=s;refine W.succ (((ayM g t).and (ayO i u)).mono fun n ⟨z,h1⟩ b af ag=> ?_)
 rw [anR];obtain⟨v0,m,ah,p⟩:=z b (by omega) (by omega)
 rw [m];simp only [Z];by_cases d:v0<0
 .rw [hJ d];exact⟨-1,rfl,by omega,fun h=>absurd h (by omega)⟩
 rw [hL d];simp only [ez];have t0:=p (by omega)
 obtain⟨v1,q,aj,r⟩:=h1 v0 (by omega) (by omega)
 rw [q];simp only [Z];by_cases f:v1<0
 .rw [hJ f];exact⟨-1,rfl,by omega,fun h=>absurd h (by omega)⟩
 rw [hL f];simp only [ez];have t1:=r (by omega)
 exact⟨v1,rfl,by omega,fun _=>(À t0 (À t1 (À trivial trivial)))⟩
theorem wB (b:ah) (i:dM bh b):W fun n=> ∀d:Int,0<=d->d<=1048576-> ∃v:Int,qp n b d=some v/\v<=1048576/\(0<=v->dq bh b):=by
 refine W.succ (W.of fun n d f g=> ?_)
 rw [anU,eE (cur:=d) (k:=b.length) f g i.1];by_cases c:(d-(b.length:Int))<0
 .rw [hJ c];exact⟨-1,rfl,by omega,fun h=>absurd h (by omega)⟩
 rw [hL c];exact⟨_,rfl,by omega,fun _=>À (show b.length<=1048576 by omega) (fun _ _=>trivial)⟩
theorem Sw (j:ae) (m:ai) (p:Int) (q:Int) (r:ah) (b:O) (ho:fv (.cons aL (.cons bP (.cons (.int .i64) (.cons (.int .i64) (.cons bh (.one .str)))))) (j,m,p,q,r,b)):W fun n=> ∀d:Int,0<=d->d<=1048576-> ∃v:Int,yE n j m p q r b d=some v/\v<=1048576/\(0<=v->cp (.cons aL (.cons bP (.cons (.int .i64) (.cons (.int .i64) (.cons bh (.one .str)))))) (j,m,p,q,r,b)):=by
 obtain⟨o0,o1,o2,o3,o4,o5⟩:=ho;refine W.succ (((ayP j m p q (À o0 (À o1 (À o2 o3)))).and (wB r o4)).mono fun n ⟨h0,h1⟩ d av aw=> ?_)
 rw [anQ];obtain⟨v0,s,ax,t⟩:=h0 d (by omega) (by omega)
 rw [s];simp only [Z];by_cases f:v0<0
 .rw [hJ f];exact⟨-1,rfl,by omega,fun h=>absurd h (by omega)⟩
 rw [hL f];simp only [ez];obtain⟨t0,t1,t2,t3⟩:=t (by omega)
 obtain⟨v1,u,ay,z⟩:=h1 v0 (by omega) (by omega)
 rw [u];simp only [Z];by_cases g:v1<0
 .rw [hJ g];exact⟨-1,rfl,by omega,fun h=>absurd h (by omega)⟩
 rw [hL g];simp only [ez];have t4:=z (by omega)
 rw [eE (cur:=v1) (k:=b.length) (by omega) (by omega) o5]
 obtain⟨v2,ad⟩: ∃v:Int,v=v1-(b.length:Int):=⟨_,rfl⟩
 rw [<-ad];by_cases i:v2<0
 .rw [hJ i];exact⟨-1,rfl,by omega,fun h=>absurd h (by omega)⟩
 rw [hL i];simp only [ez];have t5:b.length<=1048576:=by omega
 exact⟨v2,rfl,by omega,fun _=>(À t0 (À t1 (À t2 (À t3 (À t4 t5)))))⟩
theorem ayQ (t:Int) (u:Int) (i:Int) (j:Int) (k:aZ) (m:ae) (p:ai) (q:Int) (r:Int) (s:ah) (d:O) (ho:fv (.cons (.int .i64) (.cons (.int .i64) (.cons (.int .i64) (.cons (.int .i64) (.cons cY (.cons aL (.cons bP (.cons (.int .i64) (.cons (.int .i64) (.cons bh (.one .str))))))))))) (t,u,i,j,k,m,p,q,r,s,d)):W fun n=> ∀b:Int,0<=b->b<=1048576-> ∃v:Int,Fp n t u i j k m p q r s d b=some v/\v<=1048576/\(0<=v->cp (.cons (.int .i64) (.cons (.int .i64) (.cons (.int .i64) (.cons (.int .i64) (.cons cY (.cons aL (.cons bP (.cons (.int .i64) (.cons (.int .i64) (.cons bh (.one .str))))))))))) (t,u,i,j,k,m,p,q,r,s,d)):=by
 obtain⟨o0,o1,o2,o3,o4,o5,o6,o7,o8,o9,z⟩:=ho;refine W.succ (((ayL i j k (À o2 (À o3 o4))).and (Sw m p q r s d (À o5 (À o6 (À o7 (À o8 (À o9 z))))))).mono fun n ⟨h0,h1⟩ b a1 a6=> ?_)
 rw [anM];obtain⟨v0,ad,a7,af⟩:=h0 b (by omega) (by omega)
 rw [ad];simp only [Z];by_cases f:v0<0
 .rw [hJ f];exact⟨-1,rfl,by omega,fun h=>absurd h (by omega)⟩
 rw [hL f];simp only [ez];obtain⟨t2,t3,t4⟩:=af (by omega)
 obtain⟨v1,ag,a8,aj⟩:=h1 v0 (by omega) (by omega)
 rw [ag];simp only [Z];by_cases g:v1<0
 .rw [hJ g];exact⟨-1,rfl,by omega,fun h=>absurd h (by omega)⟩
 rw [hL g];simp only [ez];obtain⟨t5,t6,t7,t8,t9,t10⟩:=aj (by omega)
 exact⟨v1,rfl,by omega,fun _=>(À trivial (À trivial (À t2 (À t3 (À t4 (À t5 (À t6 (À t7 (À t8 (À t9 t10))))))))))⟩
theorem ayR (b:ch) (i:dM ia b):W fun n=> ∀d:Int,0<=d->d<=1048576-> ∃v:Int,Fx n b d=some v/\v<=1048576/\(0<=v->dq ia b):=by
 refine W.succ (W.of fun n d f g=> ?_)
 rw [anV,eE (cur:=d) (k:=b.length) f g i.1];by_cases c:(d-(b.length:Int))<0
 .rw [hJ c];exact⟨-1,rfl,by omega,fun h=>absurd h (by omega)⟩
 rw [hL c];exact⟨_,rfl,by omega,fun _=>À (show b.length<=1048576 by omega) (fun _ _=>trivial)⟩
theorem ayS (b:bY) (i:dM eY b):W fun n=> ∀d:Int,0<=d->d<=1048576-> ∃v:Int,Fz n b d=some v/\v<=1048576/\(0<=v->dq eY b):=by
 refine W.succ (W.of fun n d f g=> ?_)
 rw [anX,eE (cur:=d) (k:=b.length) f g i.1];by_cases c:(d-(b.length:Int))<0
 .rw [hJ c];exact⟨-1,rfl,by omega,fun h=>absurd h (by omega)⟩
 rw [hL c];exact⟨_,rfl,by omega,fun _=>À (show b.length<=1048576 by omega) (fun _ _=>trivial)⟩
theorem ayT (f:bY) (g:Int) (k:fv (.cons eY (.one (.int .i64))) (f,g)):W fun n=> ∀b:Int,0<=b->b<=1048576-> ∃v:Int,Fy n f g b=some v/\v<=1048576/\(0<=v->cp (.cons eY (.one (.int .i64))) (f,g)):=by
 obtain⟨m,t⟩:=k;refine W.succ ((ayS f m).mono fun n p b q r=> ?_)
 rw [anW];obtain⟨v0,i,s,j⟩:=p b (by omega) (by omega)
 rw [i];simp only [Z];by_cases d:v0<0
 .rw [hJ d];exact⟨-1,rfl,by omega,fun h=>absurd h (by omega)⟩
 rw [hL d];simp only [ez];have t0:=j (by omega)
 exact⟨v0,rfl,by omega,fun _=>(À t0 trivial)⟩
theorem ayU (j:Int) (m:Int) (p:Int) (q:Int) (r:Int) (s:Int) (t:Int) (i:aZ) (u:Bool) (d:O) (ho:fv (.cons (.int .i64) (.cons (.int .i64) (.cons (.int .i64) (.cons (.int .i64) (.cons (.int .i64) (.cons (.int .i64) (.cons (.int .i64) (.cons cY (.cons .bool (.one .str)))))))))) (j,m,p,q,r,s,t,i,u,d)):W fun n=> ∀b:Int,0<=b->b<=1048576-> ∃v:Int,FA n j m p q r s t i u d b=some v/\v<=1048576/\(0<=v->cp (.cons (.int .i64) (.cons (.int .i64) (.cons (.int .i64) (.cons (.int .i64) (.cons (.int .i64) (.cons (.int .i64) (.cons (.int .i64) (.cons cY (.cons .bool (.one .str)))))))))) (j,m,p,q,r,s,t,i,u,d)):=by
 obtain⟨o0,o1,o2,o3,o4,o5,o6,o7,o8,o9⟩:=ho;refine W.succ ((Su i o7).mono fun n h0 b aj ak=> ?_)
 rw [anY];obtain⟨v0,z,al,ad⟩:=h0 b (by omega) (by omega)
 rw [z];simp only [Z];by_cases f:v0<0
 .rw [hJ f];exact⟨-1,rfl,by omega,fun h=>absurd h (by omega)⟩
 rw [hL f];simp only [ez];have t7:=ad (by omega)
 rw [eE (cur:=v0) (k:=d.length) (by omega) (by omega) o9]
 obtain⟨v1,ae⟩: ∃v:Int,v=v0-(d.length:Int):=⟨_,rfl⟩
 rw [<-ae];by_cases g:v1<0
 .rw [hJ g];exact⟨-1,rfl,by omega,fun h=>absurd h (by omega)⟩
 rw [hL g];simp only [ez];have t9:d.length<=1048576:=by omega
 exact⟨v1,rfl,by omega,fun _=>(À trivial (À trivial (À trivial (À trivial (À trivial (À trivial (À trivial (À t7 (À trivial t9)))))))))⟩
theorem Sx (b:bn) (q:dM ej b):W fun n=> ∀d:Int,0<=d->d<=1048576-> ∃v:Int,yI n b d=some v/\v<=1048576/\(0<=v->dq ej b):=by
 by_cases hlen:b.length<=1048576
 .have f:=oq (sm:=fun x=>cp (ak ej) x) (l:=b) hlen (L:=fun n m i left=>yJ n m i left b) ?_ (fun n m left=>by rw [PD];simp)
  .refine W.succ (f.mono fun n h d g j=> ?_)
   rw [PB,eE (cur:=d) (k:=b.length) g j q.1];by_cases c:(d-(b.length:Int))<0
   .rw [hJ c];exact⟨-1,rfl,by omega,fun h=>absurd h (by omega)⟩
   rw [hL c];obtain⟨r,e,k1,k2⟩:=h (d-(b.length:Int)) (by omega) (by omega)
   simp only [ez,e,Z];cases r with
   |inl v=>exact⟨v,rfl,(k1 v rfl).2.1,fun _=>À hlen (k1 v rfl).2.2⟩
   |inr v=>exact⟨v,rfl,by rw [k2 v rfl];omega,fun h=>absurd h (by rw [k2 v rfl];omega)⟩
  .refine(W.all b fun x s=>ayU x.1 x.2.1 x.2.2.1 x.2.2.2.1 x.2.2.2.2.1 x.2.2.2.2.2.1 x.2.2.2.2.2.2.1 x.2.2.2.2.2.2.2.1 x.2.2.2.2.2.2.2.2.1 x.2.2.2.2.2.2.2.2.2 (q.2 x s)).mono fun n h m i x left hi t u=> ?_
   obtain⟨p,rfl⟩:=Ã.1 hi
   obtain⟨v,e,k1,k2⟩:=h _ (Â p) left t u;refine⟨v, ?_,k1,k2⟩
   rw [PD,hJ (by omega),bg p]
   simp only [Y,Z,e]
 .refine W.succ (W.of fun n d g j=> ?_)
  rw [PB,eE (cur:=d) (k:=b.length) g j q.1,hJ (by omega)]
  exact⟨-1,rfl,by omega,fun h=>absurd h (by omega)⟩
theorem ayV (x0:Int) (x1:Int) (x2:Int) (x3:Int) (x4:Int) (x5:aZ) (x6:ae) (x7:ai) (x8:Int) (x9:Int) (d:ah) (f:O) (ad:Int) (g:ch) (i:ah) (j:ah) (af:Int) (k:ae) (m:ai) (p:Int) (q:Int) (r:ah) (s:O) (t:bY) (u:Int) (z:bn) (ho:fv (.cons (.int .i64) (.cons (.int .i64) (.cons (.int .i64) (.cons (.int .i64) (.cons (.int .i64) (.cons cY (.cons aL (.cons bP (.cons (.int .i64) (.cons (.int .i64) (.cons bh (.cons .str (.cons (.int .i64) (.cons ia (.cons bh (.cons bh (.cons (.int .i64) (.cons aL (.cons bP (.cons (.int .i64) (.cons (.int .i64) (.cons bh (.cons .str (.cons eY (.cons (.int .i64) (.one ej)))))))))))))))))))))))))) (x0,x1,x2,x3,x4,x5,x6,x7,x8,x9,d,f,ad,g,i,j,af,k,m,p,q,r,s,t,u,z)):W fun n=> ∀b:Int,0<=b->b<=1048576-> ∃v:Int,Fo n x0 x1 x2 x3 x4 x5 x6 x7 x8 x9 d f ad g i j af k m p q r s t u z b=some v/\v<=1048576/\(0<=v->cp (.cons (.int .i64) (.cons (.int .i64) (.cons (.int .i64) (.cons (.int .i64) (.cons (.int .i64) (.cons cY (.cons aL (.cons bP (.cons (.int .i64) (.cons (.int .i64) (.cons bh (.cons .str (.cons (.int .i64) (.cons ia (.cons bh (.cons bh (.cons (.int .i64) (.cons aL (.cons bP (.cons (.int .i64) (.cons (.int .i64) (.cons bh (.cons .str (.cons eY (.cons (.int .i64) (.one ej)))))))))))))))))))))))))) (x0,x1,x2,x3,x4,x5,x6,x7,x8,x9,d,f,ad,g,i,j,af,k,m,p,q,r,s,t,u,z)):=by
 obtain⟨o0,o1,o2,o3,o4,o5,o6,o7,o8,o9,bd,bf,c4,bg,bj,bk,c5,bm,bo,bp,bq,br,bt,bu,bw,bx⟩:=ho;refine W.succ ((((((((ayQ x1 x2 x3 x4 x5 x6 x7 x8 x9 d f (À o1 (À o2 (À o3 (À o4 (À o5 (À o6 (À o7 (À o8 (À o9 (À bd bf))))))))))).and (ayR g bg)).and (wB i bj)).and (wB j bk)).and (Sw k m p q r s (À bm (À bo (À bp (À bq (À br bt))))))).and (ayT t u (À bu bw))).and (Sx z bx)).mono fun n ⟨⟨⟨⟨⟨⟨h0,h1⟩,h2⟩,h3⟩,h4⟩,h5⟩,h6⟩ b dd de=> ?_)
 rw [anL];obtain⟨v0,bz,df,ca⟩:=h0 b (by omega) (by omega)
 rw [bz];simp only [Z];by_cases ag:v0<0
 .rw [hJ ag];exact⟨-1,rfl,by omega,fun h=>absurd h (by omega)⟩
 rw [hL ag];simp only [ez];obtain⟨t1,t2,t3,t4,t5,t6,t7,t8,t9,t10,t11⟩:=ca (by omega)
 obtain⟨v1,cb,dh,cc⟩:=h1 v0 (by omega) (by omega)
 rw [cb];simp only [Z];by_cases aj:v1<0
 .rw [hJ aj];exact⟨-1,rfl,by omega,fun h=>absurd h (by omega)⟩
 rw [hL aj];simp only [ez];have t13:=cc (by omega)
 obtain⟨v2,cf,di,cg⟩:=h2 v1 (by omega) (by omega)
 rw [cf];simp only [Z];by_cases ak:v2<0
 .rw [hJ ak];exact⟨-1,rfl,by omega,fun h=>absurd h (by omega)⟩
 rw [hL ak];simp only [ez];have t14:=cg (by omega)
 obtain⟨v3,cj,dj,ck⟩:=h3 v2 (by omega) (by omega)
 rw [cj];simp only [Z];by_cases al:v3<0
 .rw [hJ al];exact⟨-1,rfl,by omega,fun h=>absurd h (by omega)⟩
 rw [hL al];simp only [ez];have t15:=ck (by omega)
 obtain⟨v4,cl,dk,cm⟩:=h4 v3 (by omega) (by omega)
 rw [cl];simp only [Z];by_cases ao:v4<0
 .rw [hJ ao];exact⟨-1,rfl,by omega,fun h=>absurd h (by omega)⟩
 rw [hL ao];simp only [ez];obtain⟨t17,t18,t19,t20,t21,t22⟩:=cm (by omega)
 obtain⟨v5,cn,dm,cq⟩:=h5 v4 (by omega) (by omega)
 rw [cn];simp only [Z];by_cases aq:v5<0
 .rw [hJ aq];exact⟨-1,rfl,by omega,fun h=>absurd h (by omega)⟩
 rw [hL aq];simp only [ez];obtain⟨t23,t24⟩:=cq (by omega)
 obtain⟨v6,cr,dn,ct⟩:=h6 v5 (by omega) (by omega)
 rw [cr];simp only [Z];by_cases ar:v6<0
 .rw [hJ ar];exact⟨-1,rfl,by omega,fun h=>absurd h (by omega)⟩
 rw [hL ar];simp only [ez];have t25:=ct (by omega)
 exact⟨v6,rfl,by omega,fun _=>(À trivial (À t1 (À t2 (À t3 (À t4 (À t5 (À t6 (À t7 (À t8 (À t9 (À t10 (À t11 (À trivial (À t13 (À t14 (À t15 (À trivial (À t17 (À t18 (À t19 (À t20 (À t21 (À t22 (À t23 (À t24 t25)))))))))))))))))))))))))⟩
theorem ayW (b:cj) (q:dM fz b):W fun n=> ∀d:Int,0<=d->d<=1048576-> ∃v:Int,Fm n b d=some v/\v<=1048576/\(0<=v->dq fz b):=by
 by_cases hlen:b.length<=1048576
 .have f:=oq (sm:=fun x=>cp (ak fz) x) (l:=b) hlen (L:=fun n m i left=>yA n m i left b) ?_ (fun n m left=>by rw [Pu];simp)
  .refine W.succ (f.mono fun n h d g j=> ?_)
   rw [Pt,eE (cur:=d) (k:=b.length) g j q.1];by_cases c:(d-(b.length:Int))<0
   .rw [hJ c];exact⟨-1,rfl,by omega,fun h=>absurd h (by omega)⟩
   rw [hL c];obtain⟨r,e,k1,k2⟩:=h (d-(b.length:Int)) (by omega) (by omega)
   simp only [ez,e,Z];cases r with
   |inl v=>exact⟨v,rfl,(k1 v rfl).2.1,fun _=>À hlen (k1 v rfl).2.2⟩
   |inr v=>exact⟨v,rfl,by rw [k2 v rfl];omega,fun h=>absurd h (by rw [k2 v rfl];omega)⟩
  .refine(W.all b fun x s=>ayV x.1 x.2.1 x.2.2.1 x.2.2.2.1 x.2.2.2.2.1 x.2.2.2.2.2.1 x.2.2.2.2.2.2.1 x.2.2.2.2.2.2.2.1 x.2.2.2.2.2.2.2.2.1 x.2.2.2.2.2.2.2.2.2.1 x.2.2.2.2.2.2.2.2.2.2.1 x.2.2.2.2.2.2.2.2.2.2.2.1 x.2.2.2.2.2.2.2.2.2.2.2.2.1 x.2.2.2.2.2.2.2.2.2.2.2.2.2.1 x.2.2.2.2.2.2.2.2.2.2.2.2.2.2.1 x.2.2.2.2.2.2.2.2.2.2.2.2.2.2.2.1 x.2.2.2.2.2.2.2.2.2.2.2.2.2.2.2.2.1 x.2.2.2.2.2.2.2.2.2.2.2.2.2.2.2.2.2.1 x.2.2.2.2.2.2.2.2.2.2.2.2.2.2.2.2.2.2.1 x.2.2.2.2.2.2.2.2.2.2.2.2.2.2.2.2.2.2.2.1 x.2.2.2.2.2.2.2.2.2.2.2.2.2.2.2.2.2.2.2.2.1 x.2.2.2.2.2.2.2.2.2.2.2.2.2.2.2.2.2.2.2.2.2.1 x.2.2.2.2.2.2.2.2.2.2.2.2.2.2.2.2.2.2.2.2.2.2.1 x.2.2.2.2.2.2.2.2.2.2.2.2.2.2.2.2.2.2.2.2.2.2.2.1 x.2.2.2.2.2.2.2.2.2.2.2.2.2.2.2.2.2.2.2.2.2.2.2.2.1 x.2.2.2.2.2.2.2.2.2.2.2.2.2.2.2.2.2.2.2.2.2.2.2.2.2 (q.2 x s)).mono fun n h m i x left hi t u=> ?_
   obtain⟨p,rfl⟩:=Ã.1 hi
   obtain⟨v,e,k1,k2⟩:=h _ (Â p) left t u;refine⟨v, ?_,k1,k2⟩
   rw [Pu,hJ (by omega),bg p]
   simp only [Y,Z,e]
 .refine W.succ (W.of fun n d g j=> ?_)
  rw [Pt,eE (cur:=d) (k:=b.length) g j q.1,hJ (by omega)]
  exact⟨-1,rfl,by omega,fun h=>absurd h (by omega)⟩
theorem ayX (g:Int) (b:O) (j:fv (.cons (.int .i64) (.one .str)) (g,b)):W fun n=> ∀d:Int,0<=d->d<=1048576-> ∃v:Int,FB n g b d=some v/\v<=1048576/\(0<=v->cp (.cons (.int .i64) (.one .str)) (g,b)):=by
 obtain⟨r,m⟩:=j;refine W.succ (W.of fun n d p q=> ?_)
 rw [anZ];rw [eE (cur:=d) (k:=b.length) (by omega) (by omega) m]
 obtain⟨v0,i⟩: ∃v:Int,v=d-(b.length:Int):=⟨_,rfl⟩
 rw [<-i];by_cases f:v0<0
 .rw [hJ f];exact⟨-1,rfl,by omega,fun h=>absurd h (by omega)⟩
 rw [hL f];simp only [ez];have t1:b.length<=1048576:=by omega
 exact⟨v0,rfl,by omega,fun _=>(À trivial t1)⟩
theorem ayY (b:ae) (q:dM aL b):W fun n=> ∀d:Int,0<=d->d<=1048576-> ∃v:Int,FC n b d=some v/\v<=1048576/\(0<=v->dq aL b):=by
 by_cases hlen:b.length<=1048576
 .have f:=oq (sm:=fun x=>cp (ak aL) x) (l:=b) hlen (L:=fun n m i left=>yK n m i left b) ?_ (fun n m left=>by rw [PF];simp)
  .refine W.succ (f.mono fun n h d g j=> ?_)
   rw [PE,eE (cur:=d) (k:=b.length) g j q.1];by_cases c:(d-(b.length:Int))<0
   .rw [hJ c];exact⟨-1,rfl,by omega,fun h=>absurd h (by omega)⟩
   rw [hL c];obtain⟨r,e,k1,k2⟩:=h (d-(b.length:Int)) (by omega) (by omega)
   simp only [ez,e,Z];cases r with
   |inl v=>exact⟨v,rfl,(k1 v rfl).2.1,fun _=>À hlen (k1 v rfl).2.2⟩
   |inr v=>exact⟨v,rfl,by rw [k2 v rfl];omega,fun h=>absurd h (by rw [k2 v rfl];omega)⟩
  .refine(W.all b fun x s=>Ss x.1 x.2.1 x.2.2 (q.2 x s)).mono fun n h m i x left hi t u=> ?_
   obtain⟨p,rfl⟩:=Ã.1 hi
   obtain⟨v,e,k1,k2⟩:=h _ (Â p) left t u;refine⟨v, ?_,k1,k2⟩
   rw [PF,hJ (by omega),bg p]
   simp only [Y,Z,e]
 .refine W.succ (W.of fun n d g j=> ?_)
  rw [PE,eE (cur:=d) (k:=b.length) g j q.1,hJ (by omega)]
  exact⟨-1,rfl,by omega,fun h=>absurd h (by omega)⟩
theorem ayZ (r:af) (s:af) (t:ae) (u:ae) (x4:Int) (z:cj) (x6:bn) (x7:Int) (x8:O) (x9:ah) (d:ah) (f:ae) (ho:fv (.cons cE (.cons cE (.cons aL (.cons aL (.cons (.int .i64) (.cons fz (.cons ej (.cons (.int .i64) (.cons .str (.cons bh (.cons bh (.one aL)))))))))))) (r,s,t,u,x4,z,x6,x7,x8,x9,d,f)):W fun n=> ∀b:Int,0<=b->b<=1048576-> ∃v:Int,Fj n r s t u x4 z x6 x7 x8 x9 d f b=some v/\v<=1048576/\(0<=v->cp (.cons cE (.cons cE (.cons aL (.cons aL (.cons (.int .i64) (.cons fz (.cons ej (.cons (.int .i64) (.cons .str (.cons bh (.cons bh (.one aL)))))))))))) (r,s,t,u,x4,z,x6,x7,x8,x9,d,f)):=by
 obtain⟨o0,o1,o2,o3,o4,o5,o6,o7,o8,o9,al,ao⟩:=ho;refine W.succ ((((((((ayJ r s t u (À o0 (À o1 (À o2 o3)))).and (ayW z o5)).and (Sx x6 o6)).and (ayX x7 x8 (À o7 o8))).and (wB x9 o9)).and (wB d al)).and (ayY f ao)).mono fun n ⟨⟨⟨⟨⟨⟨h0,h1⟩,h2⟩,h3⟩,h4⟩,h5⟩,h6⟩ b cg ch=> ?_)
 rw [anI];obtain⟨v0,aq,ck,ar⟩:=h0 b (by omega) (by omega)
 rw [aq];simp only [Z];by_cases g:v0<0
 .rw [hJ g];exact⟨-1,rfl,by omega,fun h=>absurd h (by omega)⟩
 rw [hL g];simp only [ez];obtain⟨t0,t1,t2,t3⟩:=ar (by omega)
 obtain⟨v1,au,cl,av⟩:=h1 v0 (by omega) (by omega)
 rw [au];simp only [Z];by_cases i:v1<0
 .rw [hJ i];exact⟨-1,rfl,by omega,fun h=>absurd h (by omega)⟩
 rw [hL i];simp only [ez];have t5:=av (by omega)
 obtain⟨v2,aw,cm,ax⟩:=h2 v1 (by omega) (by omega)
 rw [aw];simp only [Z];by_cases j:v2<0
 .rw [hJ j];exact⟨-1,rfl,by omega,fun h=>absurd h (by omega)⟩
 rw [hL j];simp only [ez];have t6:=ax (by omega)
 obtain⟨v3,ay,cn,az⟩:=h3 v2 (by omega) (by omega)
 rw [ay];simp only [Z];by_cases k:v3<0
 .rw [hJ k];exact⟨-1,rfl,by omega,fun h=>absurd h (by omega)⟩
 rw [hL k];simp only [ez];obtain⟨t7,t8⟩:=az (by omega)
 obtain⟨v4,a1,cq,a6⟩:=h4 v3 (by omega) (by omega)
 rw [a1];simp only [Z];by_cases m:v4<0
 .rw [hJ m];exact⟨-1,rfl,by omega,fun h=>absurd h (by omega)⟩
 rw [hL m];simp only [ez];have t9:=a6 (by omega)
 obtain⟨v5,a7,cr,a8⟩:=h5 v4 (by omega) (by omega)
 rw [a7];simp only [Z];by_cases p:v5<0
 .rw [hJ p];exact⟨-1,rfl,by omega,fun h=>absurd h (by omega)⟩
 rw [hL p];simp only [ez];have t10:=a8 (by omega)
 obtain⟨v6,bd,ct,bf⟩:=h6 v5 (by omega) (by omega)
 rw [bd];simp only [Z];by_cases q:v6<0
 .rw [hJ q];exact⟨-1,rfl,by omega,fun h=>absurd h (by omega)⟩
 rw [hL q];simp only [ez];have t11:=bf (by omega)
 exact⟨v6,rfl,by omega,fun _=>(À t0 (À t1 (À t2 (À t3 (À trivial (À t5 (À t6 (À t7 (À t8 (À t9 (À t10 t11)))))))))))⟩
theorem Sy (f:af) (j:dq cE f):W fun n=>yL n f=some f:=by
 have hlen:f.length<=1048576:=j.1;have b:=kH (a:=f) (d:=([]:O)) hlen (L:=fun n m i out=>yM n m i f out) ?_ (fun n m out=>by rw [PG];simp)
 .refine W.succ (b.mono fun n h=> ?_)
  rw [aoC,hJ (by unfold aD;omega)]
  simp only [Y,Á,h,Z,ay]
 .refine W.of fun n m i out hi g=> ?_
  rw [PG,hJ (by omega),bg hi]
  simp only [Y,Z];rw [hJ (by omega),ff (l:=out) (by omega)]
  simp only [Y,Z,Á]
theorem azA (b:Int) (d:Int) (f:O) (_:cp (.cons (.int .i64) (.cons (.int .i64) (.one .str))) (b,d,f)):W fun n=>FE n b d f=some (b,d,f):=by
 exact W.succ (W.of fun n=>by rw [aoE])
theorem SA (b:ae) (j:dq aL b):W fun n=>yN n b=some b:=by
 have hlen:b.length<=1048576:=j.1;have f:=kH (a:=b) (d:=((0:Int),(0:Int),([]:O))) hlen (L:=fun n m i out=>yO n m i b out) ?_ (fun n m out=>by rw [PH];simp)
 .refine W.succ (f.mono fun n h=> ?_)
  rw [aoD,hJ (by unfold aD;omega)]
  simp only [Y,Á,h,Z,ay]
 .refine(W.all b fun x g=>azA x.1 x.2.1 x.2.2 (j.2 x g)).mono fun n h m i out hi k=> ?_
  have g:=h _ (Â hi);rw [PH,hJ (by omega),bg hi]
  simp only [Y,Z,g];rw [hJ (by omega),ff (l:=out) (by omega)]
  simp only [Y,Z,Á]
theorem azB (b:af) (d:af) (f:ae) (g:ae) (h:cp (.cons cE (.cons cE (.cons aL (.one aL)))) (b,d,f,g)):W fun n=>FD n b d f g=some (b,d,f,g):=by
 obtain⟨i,s1,s2,j⟩:=h;refine W.succ (((((Sy b i).and (Sy d s1)).and (SA f s2)).and (SA g j)).mono fun n ⟨⟨⟨k,m⟩,p⟩,q⟩=> ?_)
 rw [aoB];simp only [k,m,p,q,Z]
theorem SB (b:Int) (d:Int) (f:O) (_:cp (.cons (.int .i64) (.cons (.int .i64) (.one .str))) (b,d,f)):W fun n=>yS n b d f=some (b,d,f):=by
 exact W.succ (W.of fun n=>by rw [aoL])
theorem azC (g:Int) (b:Int) (d:Int) (f:O) (h:cp (.cons (.int .i64) (.cons (.int .i64) (.cons (.int .i64) (.one .str)))) (g,b,d,f)):W fun n=>FK n g b d f=some (g,b,d,f):=by
 obtain⟨k,s1,s2,i⟩:=h;refine W.succ ((SB b d f (À s1 (À s2 i))).mono fun n j=> ?_)
 rw [aoK];simp only [j,Z]
theorem SC (b:aZ) (j:dq cY b):W fun n=>yQ n b=some b:=by
 have hlen:b.length<=1048576:=j.1;have f:=kH (a:=b) (d:=((0:Int),(0:Int),(0:Int),([]:O))) hlen (L:=fun n m i out=>yR n m i b out) ?_ (fun n m out=>by rw [PJ];simp)
 .refine W.succ (f.mono fun n h=> ?_)
  rw [aoJ,hJ (by unfold aD;omega)]
  simp only [Y,Á,h,Z,ay]
 .refine(W.all b fun x g=>azC x.1 x.2.1 x.2.2.1 x.2.2.2 (j.2 x g)).mono fun n h m i out hi k=> ?_
  have g:=h _ (Â hi);rw [PJ,hJ (by omega),bg hi]
  simp only [Y,Z,g];rw [hJ (by omega),ff (l:=out) (by omega)]
  simp only [Y,Z,Á]
theorem azD (d:Int) (f:Int) (b:aZ) (g:cp (.cons (.int .i64) (.cons (.int .i64) (.one cY))) (d,f,b)):W fun n=>FJ n d f b=some (d,f,b):=by
 obtain⟨i,s1,s2⟩:=g;refine W.succ ((SC b s2).mono fun n h=> ?_)
 rw [aoI];simp only [h,Z]
theorem SD (b:Int) (d:Int) (f:O) (_:cp (.cons (.int .i64) (.cons (.int .i64) (.one .str))) (b,d,f)):W fun n=>yV n b d f=some (b,d,f):=by
 exact W.succ (W.of fun n=>by rw [aoP])
theorem azE (b:ae) (j:dq aL b):W fun n=>FM n b=some b:=by
 have hlen:b.length<=1048576:=j.1;have f:=kH (a:=b) (d:=((0:Int),(0:Int),([]:O))) hlen (L:=fun n m i out=>yU n m i b out) ?_ (fun n m out=>by rw [PK];simp)
 .refine W.succ (f.mono fun n h=> ?_)
  rw [aoO,hJ (by unfold aD;omega)]
  simp only [Y,Á,h,Z,ay]
 .refine(W.all b fun x g=>SD x.1 x.2.1 x.2.2 (j.2 x g)).mono fun n h m i out hi k=> ?_
  have g:=h _ (Â hi);rw [PK,hJ (by omega),bg hi]
  simp only [Y,Z,g];rw [hJ (by omega),ff (l:=out) (by omega)]
  simp only [Y,Z,Á]
theorem azF (g:Int) (h:O) (b:Int) (d:Int) (f:O) (i:cp (.cons (.int .i64) (.cons .str (.cons (.int .i64) (.cons (.int .i64) (.one .str))))) (g,h,b,d,f)):W fun n=>FO n g h b d f=some (g,h,b,d,f):=by
 obtain⟨p,s1,s2,j,k⟩:=i;refine W.succ ((SD b d f (À s2 (À j k))).mono fun n m=> ?_)
 rw [aoR];simp only [m,Z]
theorem azG (b:ai) (j:dq bP b):W fun n=>FN n b=some b:=by
 have hlen:b.length<=1048576:=j.1;have f:=kH (a:=b) (d:=((0:Int),([]:O),(0:Int),(0:Int),([]:O))) hlen (L:=fun n m i out=>yW n m i b out) ?_ (fun n m out=>by rw [PL];simp)
 .refine W.succ (f.mono fun n h=> ?_)
  rw [aoQ,hJ (by unfold aD;omega)]
  simp only [Y,Á,h,Z,ay]
 .refine(W.all b fun x g=>azF x.1 x.2.1 x.2.2.1 x.2.2.2.1 x.2.2.2.2 (j.2 x g)).mono fun n h m i out hi k=> ?_
  have g:=h _ (Â hi);rw [PL,hJ (by omega),bg hi]
  simp only [Y,Z,g];rw [hJ (by omega),ff (l:=out) (by omega)]
  simp only [Y,Z,Á]
theorem azH (b:ae) (d:ai) (f:Int) (g:Int) (h:cp (.cons aL (.cons bP (.cons (.int .i64) (.one (.int .i64))))) (b,d,f,g)):W fun n=>FL n b d f g=some (b,d,f,g):=by
 obtain⟨i,s1,s2,m⟩:=h;refine W.succ (((azE b i).and (azG d s1)).mono fun n ⟨j,k⟩=> ?_)
 rw [aoN];simp only [j,k,Z]
theorem wC (f:ah) (j:dq bh f):W fun n=>qq n f=some f:=by
 have hlen:f.length<=1048576:=j.1;have b:=kH (a:=f) (d:=(0:Int)) hlen (L:=fun n m i out=>yX n m i f out) ?_ (fun n m out=>by rw [PM];simp)
 .refine W.succ (b.mono fun n h=> ?_)
  rw [aoS,hJ (by unfold aD;omega)]
  simp only [Y,Á,h,Z,ay]
 .refine W.of fun n m i out hi g=> ?_
  rw [PM,hJ (by omega),bg hi]
  simp only [Y,Z];rw [hJ (by omega),ff (l:=out) (by omega)]
  simp only [Y,Z,Á]
theorem SE (b:ae) (d:ai) (f:Int) (g:Int) (h:ah) (i:O) (j:cp (.cons aL (.cons bP (.cons (.int .i64) (.cons (.int .i64) (.cons bh (.one .str)))))) (b,d,f,g,h,i)):W fun n=>yT n b d f g h i=some (b,d,f,g,h,i):=by
 obtain⟨k,s1,s2,m,p,s⟩:=j;refine W.succ (((azH b d f g (À k (À s1 (À s2 m)))).and (wC h p)).mono fun n ⟨q,r⟩=> ?_)
 rw [aoM];simp only [q,r,Z]
theorem azI (p:Int) (q:Int) (d:Int) (f:Int) (g:aZ) (h:ae) (i:ai) (j:Int) (k:Int) (m:ah) (b:O) (s:cp (.cons (.int .i64) (.cons (.int .i64) (.cons (.int .i64) (.cons (.int .i64) (.cons cY (.cons aL (.cons bP (.cons (.int .i64) (.cons (.int .i64) (.cons bh (.one .str))))))))))) (p,q,d,f,g,h,i,j,k,m,b)):W fun n=>FI n p q d f g h i j k m b=some (p,q,d,f,g,h,i,j,k,m,b):=by
 obtain⟨s0,s1,s2,t,u,z,s6,s7,s8,s9,r⟩:=s;refine W.succ (((azD d f g (À s2 (À t u))).and (SE h i j k m b (À z (À s6 (À s7 (À s8 (À s9 r))))))).mono fun n ⟨h0,h1⟩=> ?_)
 rw [aoH];simp only [h0,h1,Z]
theorem azJ (f:ch) (j:dq ia f):W fun n=>FP n f=some f:=by
 have hlen:f.length<=1048576:=j.1;have b:=kH (a:=f) (d:=false) hlen (L:=fun n m i out=>yY n m i f out) ?_ (fun n m out=>by rw [PN];simp)
 .refine W.succ (b.mono fun n h=> ?_)
  rw [aoT,hJ (by unfold aD;omega)]
  simp only [Y,Á,h,Z,ay]
 .refine W.of fun n m i out hi g=> ?_
  rw [PN,hJ (by omega),bg hi]
  simp only [Y,Z];rw [hJ (by omega),ff (l:=out) (by omega)]
  simp only [Y,Z,Á]
theorem azK (f:bY) (j:dq eY f):W fun n=>FR n f=some f:=by
 have hlen:f.length<=1048576:=j.1;have b:=kH (a:=f) (d:=(0:UInt8)) hlen (L:=fun n m i out=>yZ n m i f out) ?_ (fun n m out=>by rw [PQ];simp)
 .refine W.succ (b.mono fun n h=> ?_)
  rw [aoV,hJ (by unfold aD;omega)]
  simp only [Y,Á,h,Z,ay]
 .refine W.of fun n m i out hi g=> ?_
  rw [PQ,hJ (by omega),bg hi]
  simp only [Y,Z];rw [hJ (by omega),ff (l:=out) (by omega)]
  simp only [Y,Z,Á,Å]
theorem azL (b:bY) (d:Int) (f:cp (.cons eY (.one (.int .i64))) (b,d)):W fun n=>FQ n b d=some (b,d):=by
 obtain⟨g,s1⟩:=f;refine W.succ ((azK b g).mono fun n h=> ?_)
 rw [aoU];simp only [h,Z]
theorem azM (d:Int) (f:Int) (g:Int) (h:Int) (i:Int) (j:Int) (k:Int) (b:aZ) (m:Bool) (p:O) (q:cp (.cons (.int .i64) (.cons (.int .i64) (.cons (.int .i64) (.cons (.int .i64) (.cons (.int .i64) (.cons (.int .i64) (.cons (.int .i64) (.cons cY (.cons .bool (.one .str)))))))))) (d,f,g,h,i,j,k,b,m,p)):W fun n=>FT n d f g h i j k b m p=some (d,f,g,h,i,j,k,b,m,p):=by
 obtain⟨t,s1,s2,u,z,s5,s6,r,s8,s9⟩:=q;refine W.succ ((SC b r).mono fun n s=> ?_)
 rw [aoX];simp only [s,Z]
theorem SF (b:bn) (j:dq ej b):W fun n=>za n b=some b:=by
 have hlen:b.length<=1048576:=j.1;have f:=kH (a:=b) (d:=((0:Int),(0:Int),(0:Int),(0:Int),(0:Int),(0:Int),(0:Int),([]:aZ),false,([]:O))) hlen (L:=fun n m i out=>zd n m i b out) ?_ (fun n m out=>by rw [PR];simp)
 .refine W.succ (f.mono fun n h=> ?_)
  rw [aoW,hJ (by unfold aD;omega)]
  simp only [Y,Á,h,Z,ay]
 .refine(W.all b fun x g=>azM x.1 x.2.1 x.2.2.1 x.2.2.2.1 x.2.2.2.2.1 x.2.2.2.2.2.1 x.2.2.2.2.2.2.1 x.2.2.2.2.2.2.2.1 x.2.2.2.2.2.2.2.2.1 x.2.2.2.2.2.2.2.2.2 (j.2 x g)).mono fun n h m i out hi k=> ?_
  have g:=h _ (Â hi);rw [PR,hJ (by omega),bg hi]
  simp only [Y,Z,g];rw [hJ (by omega),ff (l:=out) (by omega)]
  simp only [Y,Z,Á]
theorem azN (x0:Int) (x1:Int) (x2:Int) (x3:Int) (x4:Int) (x5:aZ) (x6:ae) (x7:ai) (x8:Int) (x9:Int) (b:ah) (d:O) (u:Int) (f:ch) (g:ah) (h:ah) (z:Int) (i:ae) (j:ai) (k:Int) (m:Int) (p:ah) (q:O) (r:bY) (s:Int) (t:bn) (hs:cp (.cons (.int .i64) (.cons (.int .i64) (.cons (.int .i64) (.cons (.int .i64) (.cons (.int .i64) (.cons cY (.cons aL (.cons bP (.cons (.int .i64) (.cons (.int .i64) (.cons bh (.cons .str (.cons (.int .i64) (.cons ia (.cons bh (.cons bh (.cons (.int .i64) (.cons aL (.cons bP (.cons (.int .i64) (.cons (.int .i64) (.cons bh (.cons .str (.cons eY (.cons (.int .i64) (.one ej)))))))))))))))))))))))))) (x0,x1,x2,x3,x4,x5,x6,x7,x8,x9,b,d,u,f,g,h,z,i,j,k,m,p,q,r,s,t)):W fun n=>FH n x0 x1 x2 x3 x4 x5 x6 x7 x8 x9 b d u f g h z i j k m p q r s t=some (x0,x1,x2,x3,x4,x5,x6,x7,x8,x9,b,d,u,f,g,h,z,i,j,k,m,p,q,r,s,t):=by
 obtain⟨s0,s1,s2,s3,s4,s5,s6,s7,s8,s9,av,aw,bx,ax,ay,az,bz,a1,a6,a7,a8,bd,bf,bg,bj,bk⟩:=hs;refine W.succ ((((((((azI x1 x2 x3 x4 x5 x6 x7 x8 x9 b d (À s1 (À s2 (À s3 (À s4 (À s5 (À s6 (À s7 (À s8 (À s9 (À av aw))))))))))).and (azJ f ax)).and (wC g ay)).and (wC h az)).and (SE i j k m p q (À a1 (À a6 (À a7 (À a8 (À bd bf))))))).and (azL r s (À bg bj))).and (SF t bk)).mono fun n ⟨⟨⟨⟨⟨⟨h0,h1⟩,h2⟩,h3⟩,h4⟩,h5⟩,h6⟩=> ?_)
 rw [aoG];simp only [h0,h1,h2,h3,h4,h5,h6,Z]
theorem azO (b:cj) (j:dq fz b):W fun n=>FF n b=some b:=by
 have hlen:b.length<=1048576:=j.1;have f:=kH (a:=b) (d:=((0:Int),(0:Int),(0:Int),(0:Int),(0:Int),([]:aZ),([]:ae),([]:ai),(0:Int),(0:Int),([]:ah),([]:O),(0:Int),([]:ch),([]:ah),([]:ah),(0:Int),([]:ae),([]:ai),(0:Int),(0:Int),([]:ah),([]:O),([]:bY),(0:Int),([]:bn))) hlen (L:=fun n m i out=>yP n m i b out) ?_ (fun n m out=>by rw [PI];simp)
 .refine W.succ (f.mono fun n h=> ?_)
  rw [aoF,hJ (by unfold aD;omega)]
  simp only [Y,Á,h,Z,ay]
 .refine(W.all b fun x g=>azN x.1 x.2.1 x.2.2.1 x.2.2.2.1 x.2.2.2.2.1 x.2.2.2.2.2.1 x.2.2.2.2.2.2.1 x.2.2.2.2.2.2.2.1 x.2.2.2.2.2.2.2.2.1 x.2.2.2.2.2.2.2.2.2.1 x.2.2.2.2.2.2.2.2.2.2.1 x.2.2.2.2.2.2.2.2.2.2.2.1 x.2.2.2.2.2.2.2.2.2.2.2.2.1 x.2.2.2.2.2.2.2.2.2.2.2.2.2.1 x.2.2.2.2.2.2.2.2.2.2.2.2.2.2.1 x.2.2.2.2.2.2.2.2.2.2.2.2.2.2.2.1 x.2.2.2.2.2.2.2.2.2.2.2.2.2.2.2.2.1 x.2.2.2.2.2.2.2.2.2.2.2.2.2.2.2.2.2.1 x.2.2.2.2.2.2.2.2.2.2.2.2.2.2.2.2.2.2.1 x.2.2.2.2.2.2.2.2.2.2.2.2.2.2.2.2.2.2.2.1 x.2.2.2.2.2.2.2.2.2.2.2.2.2.2.2.2.2.2.2.2.1 x.2.2.2.2.2.2.2.2.2.2.2.2.2.2.2.2.2.2.2.2.2.1 x.2.2.2.2.2.2.2.2.2.2.2.2.2.2.2.2.2.2.2.2.2.2.1 x.2.2.2.2.2.2.2.2.2.2.2.2.2.2.2.2.2.2.2.2.2.2.2.1 x.2.2.2.2.2.2.2.2.2.2.2.2.2.2.2.2.2.2.2.2.2.2.2.2.1 x.2.2.2.2.2.2.2.2.2.2.2.2.2.2.2.2.2.2.2.2.2.2.2.2.2 (j.2 x g)).mono fun n h m i out hi k=> ?_
  have g:=h _ (Â hi);rw [PI,hJ (by omega),bg hi]
  simp only [Y,Z,g];rw [hJ (by omega),ff (l:=out) (by omega)]
  simp only [Y,Z,Á]
theorem azP (b:Int) (d:O) (_:cp (.cons (.int .i64) (.one .str)) (b,d)):W fun n=>FU n b d=some (b,d):=by
 exact W.succ (W.of fun n=>by rw [aoY])
theorem azQ (b:ae) (j:dq aL b):W fun n=>FV n b=some b:=by
 have hlen:b.length<=1048576:=j.1;have f:=kH (a:=b) (d:=((0:Int),(0:Int),([]:O))) hlen (L:=fun n m i out=>zf n m i b out) ?_ (fun n m out=>by rw [PS];simp)
 .refine W.succ (f.mono fun n h=> ?_)
  rw [aoZ,hJ (by unfold aD;omega)]
  simp only [Y,Á,h,Z,ay]
 .refine(W.all b fun x g=>SB x.1 x.2.1 x.2.2 (j.2 x g)).mono fun n h m i out hi k=> ?_
  have g:=h _ (Â hi);rw [PS,hJ (by omega),bg hi]
  simp only [Y,Z,g];rw [hJ (by omega),ff (l:=out) (by omega)]
  simp only [Y,Z,Á]
theorem azR (f:af) (g:af) (h:ae) (i:ae) (r:Int) (j:cj) (k:bn) (m:Int) (p:O) (q:ah) (b:ah) (d:ae) (u:cp (.cons cE (.cons cE (.cons aL (.cons aL (.cons (.int .i64) (.cons fz (.cons ej (.cons (.int .i64) (.cons .str (.cons bh (.cons bh (.one aL)))))))))))) (f,g,h,i,r,j,k,m,p,q,b,d)):W fun n=>uN n f g h i r j k m p q b d=some (f,g,h,i,r,j,k,m,p,q,b,d):=by
 obtain⟨z,s1,s2,s3,s4,s5,s6,s7,s8,s9,s,t⟩:=u;refine W.succ ((((((((azB f g h i (À z (À s1 (À s2 s3)))).and (azO j s5)).and (SF k s6)).and (azP m p (À s7 s8))).and (wC q s9)).and (wC b s)).and (azQ d t)).mono fun n ⟨⟨⟨⟨⟨⟨h0,h1⟩,h2⟩,h3⟩,h4⟩,h5⟩,h6⟩=> ?_)
 rw [aoA];simp only [h0,h1,h2,h3,h4,h5,h6,Z]
theorem SG (b:af) (f:dq cE b):W fun n=>Bf n b b=some true:=by
 have hlen:b.length<=1048576:=f.1;have d:=kJ (len:=b.length) hlen (L:=fun n m i=>Bg n m i b b) ?_ (fun n m=>by rw [RW];simp)
 .refine W.succ (d.mono fun n h=> ?_)
  rw [axK];simp only [bne_self_eq_false,ez,h,Z,ay]
 .refine W.of fun n m i hi=> ?_
  rw [RW,hJ (by omega),bg hi]
  simp
theorem azS (b:Int) (d:Int) (f:O) (_:cp (.cons (.int .i64) (.cons (.int .i64) (.one .str))) (b,d,f)):W fun n=>Iv n b d f b d f=some true:=by
 exact W.succ (W.of fun n=>by rw [axM];simp)
theorem SH (b:ae) (g:dq aL b):W fun n=>Bh n b b=some true:=by
 have hlen:b.length<=1048576:=g.1;have d:=kJ (len:=b.length) hlen (L:=fun n m i=>Bi n m i b b) ?_ (fun n m=>by rw [RX];simp)
 .refine W.succ (d.mono fun n h=> ?_)
  rw [axL];simp only [bne_self_eq_false,ez,h,Z,ay]
 .refine(W.all b fun x f=>azS x.1 x.2.1 x.2.2 (g.2 x f)).mono fun n h m i hi=> ?_
  have f:=h _ (Â hi);rw [RX,hJ (by omega),bg hi]
  simp only [Y,Z,f,Ä,ez]
theorem azT (b:af) (d:af) (f:ae) (g:ae) (h:cp (.cons cE (.cons cE (.cons aL (.one aL)))) (b,d,f,g)):W fun n=>Iu n b d f g b d f g=some true:=by
 obtain⟨i,s1,s2,j⟩:=h;refine W.succ (((((SG b i).and (SG d s1)).and (SH f s2)).and (SH g j)).mono fun n ⟨⟨⟨k,m⟩,p⟩,q⟩=> ?_)
 rw [axJ];simp [k,m,p,q]
theorem SI (b:Int) (d:Int) (f:O) (_:cp (.cons (.int .i64) (.cons (.int .i64) (.one .str))) (b,d,f)):W fun n=>Bn n b d f b d f=some true:=by
 exact W.succ (W.of fun n=>by rw [axT];simp)
theorem azU (g:Int) (b:Int) (d:Int) (f:O) (h:cp (.cons (.int .i64) (.cons (.int .i64) (.cons (.int .i64) (.one .str)))) (g,b,d,f)):W fun n=>IA n g b d f g b d f=some true:=by
 obtain⟨k,s1,s2,i⟩:=h;refine W.succ ((SI b d f (À s1 (À s2 i))).mono fun n j=> ?_)
 rw [axS];simp [j]
theorem SJ (b:aZ) (g:dq cY b):W fun n=>Bk n b b=some true:=by
 have hlen:b.length<=1048576:=g.1;have d:=kJ (len:=b.length) hlen (L:=fun n m i=>Bm n m i b b) ?_ (fun n m=>by rw [RZ];simp)
 .refine W.succ (d.mono fun n h=> ?_)
  rw [axR];simp only [bne_self_eq_false,ez,h,Z,ay]
 .refine(W.all b fun x f=>azU x.1 x.2.1 x.2.2.1 x.2.2.2 (g.2 x f)).mono fun n h m i hi=> ?_
  have f:=h _ (Â hi);rw [RZ,hJ (by omega),bg hi]
  simp only [Y,Z,f,Ä,ez]
theorem azV (d:Int) (f:Int) (b:aZ) (g:cp (.cons (.int .i64) (.cons (.int .i64) (.one cY))) (d,f,b)):W fun n=>Iz n d f b d f b=some true:=by
 obtain⟨i,s1,s2⟩:=g;refine W.succ ((SJ b s2).mono fun n h=> ?_)
 rw [axQ];simp [h]
theorem SK (b:Int) (d:Int) (f:O) (_:cp (.cons (.int .i64) (.cons (.int .i64) (.one .str))) (b,d,f)):W fun n=>Bq n b d f b d f=some true:=by
 exact W.succ (W.of fun n=>by rw [axX];simp)
theorem azW (b:ae) (g:dq aL b):W fun n=>IC n b b=some true:=by
 have hlen:b.length<=1048576:=g.1;have d:=kJ (len:=b.length) hlen (L:=fun n m i=>Bp n m i b b) ?_ (fun n m=>by rw [Sa];simp)
 .refine W.succ (d.mono fun n h=> ?_)
  rw [axW];simp only [bne_self_eq_false,ez,h,Z,ay]
 .refine(W.all b fun x f=>SK x.1 x.2.1 x.2.2 (g.2 x f)).mono fun n h m i hi=> ?_
  have f:=h _ (Â hi);rw [Sa,hJ (by omega),bg hi]
  simp only [Y,Z,f,Ä,ez]
theorem azX (g:Int) (h:O) (b:Int) (d:Int) (f:O) (i:cp (.cons (.int .i64) (.cons .str (.cons (.int .i64) (.cons (.int .i64) (.one .str))))) (g,h,b,d,f)):W fun n=>IE n g h b d f g h b d f=some true:=by
 obtain⟨p,s1,s2,j,k⟩:=i;refine W.succ ((SK b d f (À s2 (À j k))).mono fun n m=> ?_)
 rw [axZ];simp [m]
theorem azY (b:ai) (g:dq bP b):W fun n=>ID n b b=some true:=by
 have hlen:b.length<=1048576:=g.1;have d:=kJ (len:=b.length) hlen (L:=fun n m i=>Br n m i b b) ?_ (fun n m=>by rw [Sb];simp)
 .refine W.succ (d.mono fun n h=> ?_)
  rw [axY];simp only [bne_self_eq_false,ez,h,Z,ay]
 .refine(W.all b fun x f=>azX x.1 x.2.1 x.2.2.1 x.2.2.2.1 x.2.2.2.2 (g.2 x f)).mono fun n h m i hi=> ?_
  have f:=h _ (Â hi);rw [Sb,hJ (by omega),bg hi]
  simp only [Y,Z,f,Ä,ez]
theorem azZ (b:ae) (d:ai) (f:Int) (g:Int) (h:cp (.cons aL (.cons bP (.cons (.int .i64) (.one (.int .i64))))) (b,d,f,g)):W fun n=>IB n b d f g b d f g=some true:=by
 obtain⟨i,s1,s2,m⟩:=h;refine W.succ (((azW b i).and (azY d s1)).mono fun n ⟨j,k⟩=> ?_)
 rw [axV];simp [j,k]
theorem wD (b:ah) (f:dq bh b):W fun n=>qG n b b=some true:=by
 have hlen:b.length<=1048576:=f.1;have d:=kJ (len:=b.length) hlen (L:=fun n m i=>Bs n m i b b) ?_ (fun n m=>by rw [Sc];simp)
 .refine W.succ (d.mono fun n h=> ?_)
  rw [ayA];simp only [bne_self_eq_false,ez,h,Z,ay]
 .refine W.of fun n m i hi=> ?_
  rw [Sc,hJ (by omega),bg hi]
  simp
theorem SL (b:ae) (d:ai) (f:Int) (g:Int) (h:ah) (i:O) (j:cp (.cons aL (.cons bP (.cons (.int .i64) (.cons (.int .i64) (.cons bh (.one .str)))))) (b,d,f,g,h,i)):W fun n=>Bo n b d f g h i b d f g h i=some true:=by
 obtain⟨k,s1,s2,m,p,s⟩:=j;refine W.succ (((azZ b d f g (À k (À s1 (À s2 m)))).and (wD h p)).mono fun n ⟨q,r⟩=> ?_)
 rw [axU];simp [q,r]
theorem aAa (p:Int) (q:Int) (d:Int) (f:Int) (g:aZ) (h:ae) (i:ai) (j:Int) (k:Int) (m:ah) (b:O) (s:cp (.cons (.int .i64) (.cons (.int .i64) (.cons (.int .i64) (.cons (.int .i64) (.cons cY (.cons aL (.cons bP (.cons (.int .i64) (.cons (.int .i64) (.cons bh (.one .str))))))))))) (p,q,d,f,g,h,i,j,k,m,b)):W fun n=>Iy n p q d f g h i j k m b p q d f g h i j k m b=some true:=by
 obtain⟨s0,s1,s2,t,u,z,s6,s7,s8,s9,r⟩:=s;refine W.succ (((azV d f g (À s2 (À t u))).and (SL h i j k m b (À z (À s6 (À s7 (À s8 (À s9 r))))))).mono fun n ⟨h0,h1⟩=> ?_)
 rw [axP];simp [h0,h1]
theorem aAb (b:ch) (f:dq ia b):W fun n=>IF n b b=some true:=by
 have hlen:b.length<=1048576:=f.1;have d:=kJ (len:=b.length) hlen (L:=fun n m i=>Bt n m i b b) ?_ (fun n m=>by rw [Sd];simp)
 .refine W.succ (d.mono fun n h=> ?_)
  rw [ayB];simp only [bne_self_eq_false,ez,h,Z,ay]
 .refine W.of fun n m i hi=> ?_
  rw [Sd,hJ (by omega),bg hi]
  simp
theorem aAc (b:bY) (f:dq eY b):W fun n=>IH n b b=some true:=by
 have hlen:b.length<=1048576:=f.1;have d:=kJ (len:=b.length) hlen (L:=fun n m i=>Bu n m i b b) ?_ (fun n m=>by rw [Se];simp)
 .refine W.succ (d.mono fun n h=> ?_)
  rw [ayD];simp only [bne_self_eq_false,ez,h,Z,ay]
 .refine W.of fun n m i hi=> ?_
  rw [Se,hJ (by omega),bg hi]
  simp
theorem aAd (b:bY) (d:Int) (f:cp (.cons eY (.one (.int .i64))) (b,d)):W fun n=>IG n b d b d=some true:=by
 obtain⟨g,s1⟩:=f;refine W.succ ((aAc b g).mono fun n h=> ?_)
 rw [ayC];simp [h]
theorem aAe (d:Int) (f:Int) (g:Int) (h:Int) (i:Int) (j:Int) (k:Int) (b:aZ) (m:Bool) (p:O) (q:cp (.cons (.int .i64) (.cons (.int .i64) (.cons (.int .i64) (.cons (.int .i64) (.cons (.int .i64) (.cons (.int .i64) (.cons (.int .i64) (.cons cY (.cons .bool (.one .str)))))))))) (d,f,g,h,i,j,k,b,m,p)):W fun n=>II n d f g h i j k b m p d f g h i j k b m p=some true:=by
 obtain⟨t,s1,s2,u,z,s5,s6,r,s8,s9⟩:=q;refine W.succ ((SJ b r).mono fun n s=> ?_)
 rw [ayF];simp [s]
theorem SM (b:bn) (g:dq ej b):W fun n=>Bv n b b=some true:=by
 have hlen:b.length<=1048576:=g.1;have d:=kJ (len:=b.length) hlen (L:=fun n m i=>Bw n m i b b) ?_ (fun n m=>by rw [Sf];simp)
 .refine W.succ (d.mono fun n h=> ?_)
  rw [ayE];simp only [bne_self_eq_false,ez,h,Z,ay]
 .refine(W.all b fun x f=>aAe x.1 x.2.1 x.2.2.1 x.2.2.2.1 x.2.2.2.2.1 x.2.2.2.2.2.1 x.2.2.2.2.2.2.1 x.2.2.2.2.2.2.2.1 x.2.2.2.2.2.2.2.2.1 x.2.2.2.2.2.2.2.2.2 (g.2 x f)).mono fun n h m i hi=> ?_
  have f:=h _ (Â hi);rw [Sf,hJ (by omega),bg hi]
  simp only [Y,Z,f,Ä,ez]
theorem aAf (x0:Int) (x1:Int) (x2:Int) (x3:Int) (x4:Int) (x5:aZ) (x6:ae) (x7:ai) (x8:Int) (x9:Int) (b:ah) (d:O) (u:Int) (f:ch) (g:ah) (h:ah) (z:Int) (i:ae) (j:ai) (k:Int) (m:Int) (p:ah) (q:O) (r:bY) (s:Int) (t:bn) (hs:cp (.cons (.int .i64) (.cons (.int .i64) (.cons (.int .i64) (.cons (.int .i64) (.cons (.int .i64) (.cons cY (.cons aL (.cons bP (.cons (.int .i64) (.cons (.int .i64) (.cons bh (.cons .str (.cons (.int .i64) (.cons ia (.cons bh (.cons bh (.cons (.int .i64) (.cons aL (.cons bP (.cons (.int .i64) (.cons (.int .i64) (.cons bh (.cons .str (.cons eY (.cons (.int .i64) (.one ej)))))))))))))))))))))))))) (x0,x1,x2,x3,x4,x5,x6,x7,x8,x9,b,d,u,f,g,h,z,i,j,k,m,p,q,r,s,t)):W fun n=>Ix n x0 x1 x2 x3 x4 x5 x6 x7 x8 x9 b d u f g h z i j k m p q r s t x0 x1 x2 x3 x4 x5 x6 x7 x8 x9 b d u f g h z i j k m p q r s t=some true:=by
 obtain⟨s0,s1,s2,s3,s4,s5,s6,s7,s8,s9,av,aw,bx,ax,ay,az,bz,a1,a6,a7,a8,bd,bf,bg,bj,bk⟩:=hs;refine W.succ ((((((((aAa x1 x2 x3 x4 x5 x6 x7 x8 x9 b d (À s1 (À s2 (À s3 (À s4 (À s5 (À s6 (À s7 (À s8 (À s9 (À av aw))))))))))).and (aAb f ax)).and (wD g ay)).and (wD h az)).and (SL i j k m p q (À a1 (À a6 (À a7 (À a8 (À bd bf))))))).and (aAd r s (À bg bj))).and (SM t bk)).mono fun n ⟨⟨⟨⟨⟨⟨h0,h1⟩,h2⟩,h3⟩,h4⟩,h5⟩,h6⟩=> ?_)
 rw [axO];simp [h0,h1,h2,h3,h4,h5,h6]
theorem aAg (b:cj) (g:dq fz b):W fun n=>Iw n b b=some true:=by
 have hlen:b.length<=1048576:=g.1;have d:=kJ (len:=b.length) hlen (L:=fun n m i=>Bj n m i b b) ?_ (fun n m=>by rw [RY];simp)
 .refine W.succ (d.mono fun n h=> ?_)
  rw [axN];simp only [bne_self_eq_false,ez,h,Z,ay]
 .refine(W.all b fun x f=>aAf x.1 x.2.1 x.2.2.1 x.2.2.2.1 x.2.2.2.2.1 x.2.2.2.2.2.1 x.2.2.2.2.2.2.1 x.2.2.2.2.2.2.2.1 x.2.2.2.2.2.2.2.2.1 x.2.2.2.2.2.2.2.2.2.1 x.2.2.2.2.2.2.2.2.2.2.1 x.2.2.2.2.2.2.2.2.2.2.2.1 x.2.2.2.2.2.2.2.2.2.2.2.2.1 x.2.2.2.2.2.2.2.2.2.2.2.2.2.1 x.2.2.2.2.2.2.2.2.2.2.2.2.2.2.1 x.2.2.2.2.2.2.2.2.2.2.2.2.2.2.2.1 x.2.2.2.2.2.2.2.2.2.2.2.2.2.2.2.2.1 x.2.2.2.2.2.2.2.2.2.2.2.2.2.2.2.2.2.1 x.2.2.2.2.2.2.2.2.2.2.2.2.2.2.2.2.2.2.1 x.2.2.2.2.2.2.2.2.2.2.2.2.2.2.2.2.2.2.2.1 x.2.2.2.2.2.2.2.2.2.2.2.2.2.2.2.2.2.2.2.2.1 x.2.2.2.2.2.2.2.2.2.2.2.2.2.2.2.2.2.2.2.2.2.1 x.2.2.2.2.2.2.2.2.2.2.2.2.2.2.2.2.2.2.2.2.2.2.1 x.2.2.2.2.2.2.2.2.2.2.2.2.2.2.2.2.2.2.2.2.2.2.2.1 x.2.2.2.2.2.2.2.2.2.2.2.2.2.2.2.2.2.2.2.2.2.2.2.2.1 x.2.2.2.2.2.2.2.2.2.2.2.2.2.2.2.2.2.2.2.2.2.2.2.2.2 (g.2 x f)).mono fun n h m i hi=> ?_
  have f:=h _ (Â hi);rw [RY,hJ (by omega),bg hi]
  simp only [Y,Z,f,Ä,ez]
theorem aAh (b:Int) (d:O) (_:cp (.cons (.int .i64) (.one .str)) (b,d)):W fun n=>IJ n b d b d=some true:=by
 exact W.succ (W.of fun n=>by rw [ayG];simp)
theorem aAi (b:ae) (g:dq aL b):W fun n=>IK n b b=some true:=by
 have hlen:b.length<=1048576:=g.1;have d:=kJ (len:=b.length) hlen (L:=fun n m i=>Bx n m i b b) ?_ (fun n m=>by rw [Sg];simp)
 .refine W.succ (d.mono fun n h=> ?_)
  rw [ayH];simp only [bne_self_eq_false,ez,h,Z,ay]
 .refine(W.all b fun x f=>SI x.1 x.2.1 x.2.2 (g.2 x f)).mono fun n h m i hi=> ?_
  have f:=h _ (Â hi);rw [Sg,hJ (by omega),bg hi]
  simp only [Y,Z,f,Ä,ez]
theorem aAj (f:af) (g:af) (h:ae) (i:ae) (r:Int) (j:cj) (k:bn) (m:Int) (p:O) (q:ah) (b:ah) (d:ae) (u:cp (.cons cE (.cons cE (.cons aL (.cons aL (.cons (.int .i64) (.cons fz (.cons ej (.cons (.int .i64) (.cons .str (.cons bh (.cons bh (.one aL)))))))))))) (f,g,h,i,r,j,k,m,p,q,b,d)):W fun n=>Is n f g h i r j k m p q b d f g h i r j k m p q b d=some true:=by
 obtain⟨z,s1,s2,s3,s4,s5,s6,s7,s8,s9,s,t⟩:=u;refine W.succ ((((((((azT f g h i (À z (À s1 (À s2 s3)))).and (aAg j s5)).and (SM k s6)).and (aAh m p (À s7 s8))).and (wD q s9)).and (wD b s)).and (aAi d t)).mono fun n ⟨⟨⟨⟨⟨⟨h0,h1⟩,h2⟩,h3⟩,h4⟩,h5⟩,h6⟩=> ?_)
 rw [axI];simp [h0,h1,h2,h3,h4,h5,h6]
end Go.Proofs.YtfpfjmahdneehaaGreatDoor
