/- Sizes, copies and comparisons of a law's data. -/
import Derived.Test.YtfpfjmahdneehaaGreatDoorEq
namespace Go.Proofs.YtfpfjmahdneehaaGreatDoor
open Go Go.Ev
theorem Sf (b:af) (q:dL cD b):W fun n=> ∀d:Int,0≤d→d≤1048576→ ∃v:Int,yl n b d=some v∧v≤1048576∧(0≤v→dp cD b):=by
 by_cases hlen:b.length≤1048576
 ·have f:=oq (sm:=fun x=>ch (ak cD) x) (l:=b) hlen (L:=fun n m i left=>ym n m i b left) ?_ (fun n m left=>by rw [Pj];simp)
  ·refine W.succ (f.mono fun n h d g j=> ?_)
   rw [Ph,eC (cur:=d) (k:=b.length) g j q.1];by_cases c:(d-(b.length:Int))<0
   ·rw [ez c];exact⟨-1,rfl,by omega,fun h=>absurd h (by omega)⟩
   rw [hJ c];obtain⟨r,e,k1,k2⟩:=h (d-(b.length:Int)) (by omega) (by omega)
   simp only [da,e,Z];cases r with
   |inl v=>exact⟨v,rfl,(k1 v rfl).2.1,fun _=>And.intro hlen (k1 v rfl).2.2⟩
   |inr v=>exact⟨v,rfl,by rw [k2 v rfl];omega,fun h=>absurd h (by rw [k2 v rfl];omega)⟩
  ·refine W.of fun n m i x left hi s t=> ?_
   obtain⟨p,rfl⟩:=List.getElem?_eq_some_iff.1 hi
   have u:=q.2 _ (List.getElem_mem p);refine⟨left-(b[i].length:Int), ?_,by omega,fun h=>show b[i].length≤1048576 by omega⟩
   rw [Pj,ez (by omega),bj p]
   simp only [Y,Z,eC s t u]
 ·refine W.succ (W.of fun n d g j=> ?_)
  rw [Ph,eC (cur:=d) (k:=b.length) g j q.1,ez (by omega)]
  exact⟨-1,rfl,by omega,fun h=>absurd h (by omega)⟩
theorem ayH (g:Int) (i:Int) (b:O) (m:fr (.cons (.int .i64) (.cons (.int .i64) (.one .str))) (g,i,b)):W fun n=> ∀d:Int,0≤d→d≤1048576→ ∃v:Int,Fe n g i b d=some v∧v≤1048576∧(0≤v→ch (.cons (.int .i64) (.cons (.int .i64) (.one .str))) (g,i,b)):=by
 obtain⟨s,t,p⟩:=m;refine W.succ (W.of fun n d q r=> ?_)
 rw [anH];rw [eC (cur:=d) (k:=b.length) (by omega) (by omega) p]
 obtain⟨v0,j⟩: ∃v:Int,v=d-(b.length:Int):=⟨_,rfl⟩
 rw [←j];by_cases f:v0<0
 ·rw [ez f];exact⟨-1,rfl,by omega,fun h=>absurd h (by omega)⟩
 rw [hJ f];simp only [da];have t2:b.length≤1048576:=by omega
 exact⟨v0,rfl,by omega,fun _=>(And.intro trivial (And.intro trivial t2))⟩
theorem Sg (b:ae) (q:dL aK b):W fun n=> ∀d:Int,0≤d→d≤1048576→ ∃v:Int,yn n b d=some v∧v≤1048576∧(0≤v→dp aK b):=by
 by_cases hlen:b.length≤1048576
 ·have f:=oq (sm:=fun x=>ch (ak aK) x) (l:=b) hlen (L:=fun n m i left=>yo n m i left b) ?_ (fun n m left=>by rw [Pm];simp)
  ·refine W.succ (f.mono fun n h d g j=> ?_)
   rw [Pk,eC (cur:=d) (k:=b.length) g j q.1];by_cases c:(d-(b.length:Int))<0
   ·rw [ez c];exact⟨-1,rfl,by omega,fun h=>absurd h (by omega)⟩
   rw [hJ c];obtain⟨r,e,k1,k2⟩:=h (d-(b.length:Int)) (by omega) (by omega)
   simp only [da,e,Z];cases r with
   |inl v=>exact⟨v,rfl,(k1 v rfl).2.1,fun _=>And.intro hlen (k1 v rfl).2.2⟩
   |inr v=>exact⟨v,rfl,by rw [k2 v rfl];omega,fun h=>absurd h (by rw [k2 v rfl];omega)⟩
  ·refine(W.all b fun x s=>ayH x.1 x.2.1 x.2.2 (q.2 x s)).mono fun n h m i x left hi t u=> ?_
   obtain⟨p,rfl⟩:=List.getElem?_eq_some_iff.1 hi
   obtain⟨v,e,k1,k2⟩:=h _ (List.getElem_mem p) left t u;refine⟨v, ?_,k1,k2⟩
   rw [Pm,ez (by omega),bj p]
   simp only [Y,Z,e]
 ·refine W.succ (W.of fun n d g j=> ?_)
  rw [Pk,eC (cur:=d) (k:=b.length) g j q.1,ez (by omega)]
  exact⟨-1,rfl,by omega,fun h=>absurd h (by omega)⟩
theorem ayI (j:af) (k:af) (m:ae) (p:ae) (ho:fr (.cons cD (.cons cD (.cons aK (.one aK)))) (j,k,m,p)):W fun n=> ∀b:Int,0≤b→b≤1048576→ ∃v:Int,Fb n j k m p b=some v∧v≤1048576∧(0≤v→ch (.cons cD (.cons cD (.cons aK (.one aK)))) (j,k,m,p)):=by
 obtain⟨o0,o1,o2,o3⟩:=ho;refine W.succ (((((Sf j o0).and (Sf k o1)).and (Sg m o2)).and (Sg p o3)).mono fun n ⟨⟨⟨h0,h1⟩,h2⟩,h3⟩ b av aw=> ?_)
 rw [anG];obtain⟨v0,q,ax,r⟩:=h0 b (by omega) (by omega)
 rw [q];simp only [Z];by_cases d:v0<0
 ·rw [ez d];exact⟨-1,rfl,by omega,fun h=>absurd h (by omega)⟩
 rw [hJ d];simp only [da];have t0:=r (by omega)
 obtain⟨v1,s,ay,t⟩:=h1 v0 (by omega) (by omega)
 rw [s];simp only [Z];by_cases f:v1<0
 ·rw [ez f];exact⟨-1,rfl,by omega,fun h=>absurd h (by omega)⟩
 rw [hJ f];simp only [da];have t1:=t (by omega)
 obtain⟨v2,u,az,z⟩:=h2 v1 (by omega) (by omega)
 rw [u];simp only [Z];by_cases g:v2<0
 ·rw [ez g];exact⟨-1,rfl,by omega,fun h=>absurd h (by omega)⟩
 rw [hJ g];simp only [da];have t2:=z (by omega)
 obtain⟨v3,ad,a1,ag⟩:=h3 v2 (by omega) (by omega)
 rw [ad];simp only [Z];by_cases i:v3<0
 ·rw [ez i];exact⟨-1,rfl,by omega,fun h=>absurd h (by omega)⟩
 rw [hJ i];simp only [da];have t3:=ag (by omega)
 exact⟨v3,rfl,by omega,fun _=>(And.intro t0 (And.intro t1 (And.intro t2 t3)))⟩
theorem Si (g:Int) (i:Int) (b:O) (m:fr (.cons (.int .i64) (.cons (.int .i64) (.one .str))) (g,i,b)):W fun n=> ∀d:Int,0≤d→d≤1048576→ ∃v:Int,yt n g i b d=some v∧v≤1048576∧(0≤v→ch (.cons (.int .i64) (.cons (.int .i64) (.one .str))) (g,i,b)):=by
 obtain⟨s,t,p⟩:=m;refine W.succ (W.of fun n d q r=> ?_)
 rw [anM];rw [eC (cur:=d) (k:=b.length) (by omega) (by omega) p]
 obtain⟨v0,j⟩: ∃v:Int,v=d-(b.length:Int):=⟨_,rfl⟩
 rw [←j];by_cases f:v0<0
 ·rw [ez f];exact⟨-1,rfl,by omega,fun h=>absurd h (by omega)⟩
 rw [hJ f];simp only [da];have t2:b.length≤1048576:=by omega
 exact⟨v0,rfl,by omega,fun _=>(And.intro trivial (And.intro trivial t2))⟩
theorem ayJ (j:Int) (f:Int) (g:Int) (i:O) (p:fr (.cons (.int .i64) (.cons (.int .i64) (.cons (.int .i64) (.one .str)))) (j,f,g,i)):W fun n=> ∀b:Int,0≤b→b≤1048576→ ∃v:Int,Fj n j f g i b=some v∧v≤1048576∧(0≤v→ch (.cons (.int .i64) (.cons (.int .i64) (.cons (.int .i64) (.one .str)))) (j,f,g,i)):=by
 obtain⟨o0,q,r,s⟩:=p;refine W.succ ((Si f g i (And.intro q (And.intro r s))).mono fun n t b u z=> ?_)
 rw [anL];obtain⟨v0,k,ad,m⟩:=t b (by omega) (by omega)
 rw [k];simp only [Z];by_cases d:v0<0
 ·rw [ez d];exact⟨-1,rfl,by omega,fun h=>absurd h (by omega)⟩
 rw [hJ d];simp only [da];obtain⟨t1,t2,t3⟩:=m (by omega)
 exact⟨v0,rfl,by omega,fun _=>(And.intro trivial (And.intro t1 (And.intro t2 t3)))⟩
theorem Sj (b:aY) (q:dL cW b):W fun n=> ∀d:Int,0≤d→d≤1048576→ ∃v:Int,yq n b d=some v∧v≤1048576∧(0≤v→dp cW b):=by
 by_cases hlen:b.length≤1048576
 ·have f:=oq (sm:=fun x=>ch (ak cW) x) (l:=b) hlen (L:=fun n m i left=>yr n m i left b) ?_ (fun n m left=>by rw [Pq];simp)
  ·refine W.succ (f.mono fun n h d g j=> ?_)
   rw [Pp,eC (cur:=d) (k:=b.length) g j q.1];by_cases c:(d-(b.length:Int))<0
   ·rw [ez c];exact⟨-1,rfl,by omega,fun h=>absurd h (by omega)⟩
   rw [hJ c];obtain⟨r,e,k1,k2⟩:=h (d-(b.length:Int)) (by omega) (by omega)
   simp only [da,e,Z];cases r with
   |inl v=>exact⟨v,rfl,(k1 v rfl).2.1,fun _=>And.intro hlen (k1 v rfl).2.2⟩
   |inr v=>exact⟨v,rfl,by rw [k2 v rfl];omega,fun h=>absurd h (by rw [k2 v rfl];omega)⟩
  ·refine(W.all b fun x s=>ayJ x.1 x.2.1 x.2.2.1 x.2.2.2 (q.2 x s)).mono fun n h m i x left hi t u=> ?_
   obtain⟨p,rfl⟩:=List.getElem?_eq_some_iff.1 hi
   obtain⟨v,e,k1,k2⟩:=h _ (List.getElem_mem p) left t u;refine⟨v, ?_,k1,k2⟩
   rw [Pq,ez (by omega),bj p]
   simp only [Y,Z,e]
 ·refine W.succ (W.of fun n d g j=> ?_)
  rw [Pp,eC (cur:=d) (k:=b.length) g j q.1,ez (by omega)]
  exact⟨-1,rfl,by omega,fun h=>absurd h (by omega)⟩
theorem ayK (g:Int) (i:Int) (f:aY) (m:fr (.cons (.int .i64) (.cons (.int .i64) (.one cW))) (g,i,f)):W fun n=> ∀b:Int,0≤b→b≤1048576→ ∃v:Int,Fi n g i f b=some v∧v≤1048576∧(0≤v→ch (.cons (.int .i64) (.cons (.int .i64) (.one cW))) (g,i,f)):=by
 obtain⟨u,z,p⟩:=m;refine W.succ ((Sj f p).mono fun n q b r s=> ?_)
 rw [anK];obtain⟨v0,j,t,k⟩:=q b (by omega) (by omega)
 rw [j];simp only [Z];by_cases d:v0<0
 ·rw [ez d];exact⟨-1,rfl,by omega,fun h=>absurd h (by omega)⟩
 rw [hJ d];simp only [da];have t2:=k (by omega)
 exact⟨v0,rfl,by omega,fun _=>(And.intro trivial (And.intro trivial t2))⟩
theorem Sk (g:Int) (i:Int) (b:O) (m:fr (.cons (.int .i64) (.cons (.int .i64) (.one .str))) (g,i,b)):W fun n=> ∀d:Int,0≤d→d≤1048576→ ∃v:Int,yw n g i b d=some v∧v≤1048576∧(0≤v→ch (.cons (.int .i64) (.cons (.int .i64) (.one .str))) (g,i,b)):=by
 obtain⟨s,t,p⟩:=m;refine W.succ (W.of fun n d q r=> ?_)
 rw [anP];rw [eC (cur:=d) (k:=b.length) (by omega) (by omega) p]
 obtain⟨v0,j⟩: ∃v:Int,v=d-(b.length:Int):=⟨_,rfl⟩
 rw [←j];by_cases f:v0<0
 ·rw [ez f];exact⟨-1,rfl,by omega,fun h=>absurd h (by omega)⟩
 rw [hJ f];simp only [da];have t2:b.length≤1048576:=by omega
 exact⟨v0,rfl,by omega,fun _=>(And.intro trivial (And.intro trivial t2))⟩
theorem ayL (b:ae) (q:dL aK b):W fun n=> ∀d:Int,0≤d→d≤1048576→ ∃v:Int,Fl n b d=some v∧v≤1048576∧(0≤v→dp aK b):=by
 by_cases hlen:b.length≤1048576
 ·have f:=oq (sm:=fun x=>ch (ak aK) x) (l:=b) hlen (L:=fun n m i left=>yv n m i left b) ?_ (fun n m left=>by rw [Ps];simp)
  ·refine W.succ (f.mono fun n h d g j=> ?_)
   rw [Pr,eC (cur:=d) (k:=b.length) g j q.1];by_cases c:(d-(b.length:Int))<0
   ·rw [ez c];exact⟨-1,rfl,by omega,fun h=>absurd h (by omega)⟩
   rw [hJ c];obtain⟨r,e,k1,k2⟩:=h (d-(b.length:Int)) (by omega) (by omega)
   simp only [da,e,Z];cases r with
   |inl v=>exact⟨v,rfl,(k1 v rfl).2.1,fun _=>And.intro hlen (k1 v rfl).2.2⟩
   |inr v=>exact⟨v,rfl,by rw [k2 v rfl];omega,fun h=>absurd h (by rw [k2 v rfl];omega)⟩
  ·refine(W.all b fun x s=>Sk x.1 x.2.1 x.2.2 (q.2 x s)).mono fun n h m i x left hi t u=> ?_
   obtain⟨p,rfl⟩:=List.getElem?_eq_some_iff.1 hi
   obtain⟨v,e,k1,k2⟩:=h _ (List.getElem_mem p) left t u;refine⟨v, ?_,k1,k2⟩
   rw [Ps,ez (by omega),bj p]
   simp only [Y,Z,e]
 ·refine W.succ (W.of fun n d g j=> ?_)
  rw [Pr,eC (cur:=d) (k:=b.length) g j q.1,ez (by omega)]
  exact⟨-1,rfl,by omega,fun h=>absurd h (by omega)⟩
theorem ayM (p:Int) (b:O) (i:Int) (j:Int) (m:O) (t:fr (.cons (.int .i64) (.cons .str (.cons (.int .i64) (.cons (.int .i64) (.one .str))))) (p,b,i,j,m)):W fun n=> ∀d:Int,0≤d→d≤1048576→ ∃v:Int,Fo n p b i j m d=some v∧v≤1048576∧(0≤v→ch (.cons (.int .i64) (.cons .str (.cons (.int .i64) (.cons (.int .i64) (.one .str))))) (p,b,i,j,m)):=by
 obtain⟨o0,u,z,o3,o4⟩:=t;refine W.succ ((Sk i j m (And.intro z (And.intro o3 o4))).mono fun n h0 d ag ah=> ?_)
 rw [anQ];rw [eC (cur:=d) (k:=b.length) (by omega) (by omega) u]
 obtain⟨v0,q⟩: ∃v:Int,v=d-(b.length:Int):=⟨_,rfl⟩
 rw [←q];by_cases f:v0<0
 ·rw [ez f];exact⟨-1,rfl,by omega,fun h=>absurd h (by omega)⟩
 rw [hJ f];simp only [da];have t1:b.length≤1048576:=by omega
 obtain⟨v1,r,ai,s⟩:=h0 v0 (by omega) (by omega)
 rw [r];simp only [Z];by_cases g:v1<0
 ·rw [ez g];exact⟨-1,rfl,by omega,fun h=>absurd h (by omega)⟩
 rw [hJ g];simp only [da];obtain⟨t2,t3,t4⟩:=s (by omega)
 exact⟨v1,rfl,by omega,fun _=>(And.intro trivial (And.intro t1 (And.intro t2 (And.intro t3 t4))))⟩
theorem ayN (b:ai) (q:dL bN b):W fun n=> ∀d:Int,0≤d→d≤1048576→ ∃v:Int,Fm n b d=some v∧v≤1048576∧(0≤v→dp bN b):=by
 by_cases hlen:b.length≤1048576
 ·have f:=oq (sm:=fun x=>ch (ak bN) x) (l:=b) hlen (L:=fun n m i left=>yx n m i left b) ?_ (fun n m left=>by rw [Pu];simp)
  ·refine W.succ (f.mono fun n h d g j=> ?_)
   rw [Pt,eC (cur:=d) (k:=b.length) g j q.1];by_cases c:(d-(b.length:Int))<0
   ·rw [ez c];exact⟨-1,rfl,by omega,fun h=>absurd h (by omega)⟩
   rw [hJ c];obtain⟨r,e,k1,k2⟩:=h (d-(b.length:Int)) (by omega) (by omega)
   simp only [da,e,Z];cases r with
   |inl v=>exact⟨v,rfl,(k1 v rfl).2.1,fun _=>And.intro hlen (k1 v rfl).2.2⟩
   |inr v=>exact⟨v,rfl,by rw [k2 v rfl];omega,fun h=>absurd h (by rw [k2 v rfl];omega)⟩
  ·refine(W.all b fun x s=>ayM x.1 x.2.1 x.2.2.1 x.2.2.2.1 x.2.2.2.2 (q.2 x s)).mono fun n h m i x left hi t u=> ?_
   obtain⟨p,rfl⟩:=List.getElem?_eq_some_iff.1 hi
   obtain⟨v,e,k1,k2⟩:=h _ (List.getElem_mem p) left t u;refine⟨v, ?_,k1,k2⟩
   rw [Pu,ez (by omega),bj p]
   simp only [Y,Z,e]
 ·refine W.succ (W.of fun n d g j=> ?_)
  rw [Pt,eC (cur:=d) (k:=b.length) g j q.1,ez (by omega)]
  exact⟨-1,rfl,by omega,fun h=>absurd h (by omega)⟩
theorem ayO (g:ae) (i:ai) (j:Int) (k:Int) (s:fr (.cons aK (.cons bN (.cons (.int .i64) (.one (.int .i64))))) (g,i,j,k)):W fun n=> ∀b:Int,0≤b→b≤1048576→ ∃v:Int,Fk n g i j k b=some v∧v≤1048576∧(0≤v→ch (.cons aK (.cons bN (.cons (.int .i64) (.one (.int .i64))))) (g,i,j,k)):=by
 obtain⟨t,u,o2,o3⟩:=s;refine W.succ (((ayL g t).and (ayN i u)).mono fun n ⟨z,h1⟩ b af ag=> ?_)
 rw [anO];obtain⟨v0,m,ah,p⟩:=z b (by omega) (by omega)
 rw [m];simp only [Z];by_cases d:v0<0
 ·rw [ez d];exact⟨-1,rfl,by omega,fun h=>absurd h (by omega)⟩
 rw [hJ d];simp only [da];have t0:=p (by omega)
 obtain⟨v1,q,aj,r⟩:=h1 v0 (by omega) (by omega)
 rw [q];simp only [Z];by_cases f:v1<0
 ·rw [ez f];exact⟨-1,rfl,by omega,fun h=>absurd h (by omega)⟩
 rw [hJ f];simp only [da];have t1:=r (by omega)
 exact⟨v1,rfl,by omega,fun _=>(And.intro t0 (And.intro t1 (And.intro trivial trivial)))⟩
theorem wq (b:ah) (i:dL bf b):W fun n=> ∀d:Int,0≤d→d≤1048576→ ∃v:Int,qo n b d=some v∧v≤1048576∧(0≤v→dp bf b):=by
 refine W.succ (W.of fun n d f g=> ?_)
 rw [anR,eC (cur:=d) (k:=b.length) f g i.1];by_cases c:(d-(b.length:Int))<0
 ·rw [ez c];exact⟨-1,rfl,by omega,fun h=>absurd h (by omega)⟩
 rw [hJ c];exact⟨_,rfl,by omega,fun _=>And.intro (show b.length≤1048576 by omega) (fun _ _=>trivial)⟩
theorem Sl (j:ae) (m:ai) (p:Int) (q:Int) (r:ah) (b:O) (ho:fr (.cons aK (.cons bN (.cons (.int .i64) (.cons (.int .i64) (.cons bf (.one .str)))))) (j,m,p,q,r,b)):W fun n=> ∀d:Int,0≤d→d≤1048576→ ∃v:Int,yu n j m p q r b d=some v∧v≤1048576∧(0≤v→ch (.cons aK (.cons bN (.cons (.int .i64) (.cons (.int .i64) (.cons bf (.one .str)))))) (j,m,p,q,r,b)):=by
 obtain⟨o0,o1,o2,o3,o4,o5⟩:=ho;refine W.succ (((ayO j m p q (And.intro o0 (And.intro o1 (And.intro o2 o3)))).and (wq r o4)).mono fun n ⟨h0,h1⟩ d av aw=> ?_)
 rw [anN];obtain⟨v0,s,ax,t⟩:=h0 d (by omega) (by omega)
 rw [s];simp only [Z];by_cases f:v0<0
 ·rw [ez f];exact⟨-1,rfl,by omega,fun h=>absurd h (by omega)⟩
 rw [hJ f];simp only [da];obtain⟨t0,t1,t2,t3⟩:=t (by omega)
 obtain⟨v1,u,ay,z⟩:=h1 v0 (by omega) (by omega)
 rw [u];simp only [Z];by_cases g:v1<0
 ·rw [ez g];exact⟨-1,rfl,by omega,fun h=>absurd h (by omega)⟩
 rw [hJ g];simp only [da];have t4:=z (by omega)
 rw [eC (cur:=v1) (k:=b.length) (by omega) (by omega) o5]
 obtain⟨v2,ad⟩: ∃v:Int,v=v1-(b.length:Int):=⟨_,rfl⟩
 rw [←ad];by_cases i:v2<0
 ·rw [ez i];exact⟨-1,rfl,by omega,fun h=>absurd h (by omega)⟩
 rw [hJ i];simp only [da];have t5:b.length≤1048576:=by omega
 exact⟨v2,rfl,by omega,fun _=>(And.intro t0 (And.intro t1 (And.intro t2 (And.intro t3 (And.intro t4 t5)))))⟩
theorem ayP (t:Int) (u:Int) (i:Int) (j:Int) (k:aY) (m:ae) (p:ai) (q:Int) (r:Int) (s:ah) (d:O) (ho:fr (.cons (.int .i64) (.cons (.int .i64) (.cons (.int .i64) (.cons (.int .i64) (.cons cW (.cons aK (.cons bN (.cons (.int .i64) (.cons (.int .i64) (.cons bf (.one .str))))))))))) (t,u,i,j,k,m,p,q,r,s,d)):W fun n=> ∀b:Int,0≤b→b≤1048576→ ∃v:Int,Fh n t u i j k m p q r s d b=some v∧v≤1048576∧(0≤v→ch (.cons (.int .i64) (.cons (.int .i64) (.cons (.int .i64) (.cons (.int .i64) (.cons cW (.cons aK (.cons bN (.cons (.int .i64) (.cons (.int .i64) (.cons bf (.one .str))))))))))) (t,u,i,j,k,m,p,q,r,s,d)):=by
 obtain⟨o0,o1,o2,o3,o4,o5,o6,o7,o8,o9,z⟩:=ho;refine W.succ (((ayK i j k (And.intro o2 (And.intro o3 o4))).and (Sl m p q r s d (And.intro o5 (And.intro o6 (And.intro o7 (And.intro o8 (And.intro o9 z))))))).mono fun n ⟨h0,h1⟩ b a1 a6=> ?_)
 rw [anJ];obtain⟨v0,ad,a7,af⟩:=h0 b (by omega) (by omega)
 rw [ad];simp only [Z];by_cases f:v0<0
 ·rw [ez f];exact⟨-1,rfl,by omega,fun h=>absurd h (by omega)⟩
 rw [hJ f];simp only [da];obtain⟨t2,t3,t4⟩:=af (by omega)
 obtain⟨v1,ag,a8,aj⟩:=h1 v0 (by omega) (by omega)
 rw [ag];simp only [Z];by_cases g:v1<0
 ·rw [ez g];exact⟨-1,rfl,by omega,fun h=>absurd h (by omega)⟩
 rw [hJ g];simp only [da];obtain⟨t5,t6,t7,t8,t9,t10⟩:=aj (by omega)
 exact⟨v1,rfl,by omega,fun _=>(And.intro trivial (And.intro trivial (And.intro t2 (And.intro t3 (And.intro t4 (And.intro t5 (And.intro t6 (And.intro t7 (And.intro t8 (And.intro t9 t10))))))))))⟩
theorem ayQ (b:cg) (i:dL hY b):W fun n=> ∀d:Int,0≤d→d≤1048576→ ∃v:Int,Fp n b d=some v∧v≤1048576∧(0≤v→dp hY b):=by
 refine W.succ (W.of fun n d f g=> ?_)
 rw [anS,eC (cur:=d) (k:=b.length) f g i.1];by_cases c:(d-(b.length:Int))<0
 ·rw [ez c];exact⟨-1,rfl,by omega,fun h=>absurd h (by omega)⟩
 rw [hJ c];exact⟨_,rfl,by omega,fun _=>And.intro (show b.length≤1048576 by omega) (fun _ _=>trivial)⟩
theorem ayR (b:bX) (i:dL eX b):W fun n=> ∀d:Int,0≤d→d≤1048576→ ∃v:Int,Fs n b d=some v∧v≤1048576∧(0≤v→dp eX b):=by
 refine W.succ (W.of fun n d f g=> ?_)
 rw [anU,eC (cur:=d) (k:=b.length) f g i.1];by_cases c:(d-(b.length:Int))<0
 ·rw [ez c];exact⟨-1,rfl,by omega,fun h=>absurd h (by omega)⟩
 rw [hJ c];exact⟨_,rfl,by omega,fun _=>And.intro (show b.length≤1048576 by omega) (fun _ _=>trivial)⟩
theorem ayS (f:bX) (g:Int) (k:fr (.cons eX (.one (.int .i64))) (f,g)):W fun n=> ∀b:Int,0≤b→b≤1048576→ ∃v:Int,Fq n f g b=some v∧v≤1048576∧(0≤v→ch (.cons eX (.one (.int .i64))) (f,g)):=by
 obtain⟨m,t⟩:=k;refine W.succ ((ayR f m).mono fun n p b q r=> ?_)
 rw [anT];obtain⟨v0,i,s,j⟩:=p b (by omega) (by omega)
 rw [i];simp only [Z];by_cases d:v0<0
 ·rw [ez d];exact⟨-1,rfl,by omega,fun h=>absurd h (by omega)⟩
 rw [hJ d];simp only [da];have t0:=j (by omega)
 exact⟨v0,rfl,by omega,fun _=>(And.intro t0 trivial)⟩
theorem ayT (j:Int) (m:Int) (p:Int) (q:Int) (r:Int) (s:Int) (t:Int) (i:aY) (u:Bool) (d:O) (ho:fr (.cons (.int .i64) (.cons (.int .i64) (.cons (.int .i64) (.cons (.int .i64) (.cons (.int .i64) (.cons (.int .i64) (.cons (.int .i64) (.cons cW (.cons .bool (.one .str)))))))))) (j,m,p,q,r,s,t,i,u,d)):W fun n=> ∀b:Int,0≤b→b≤1048576→ ∃v:Int,Ft n j m p q r s t i u d b=some v∧v≤1048576∧(0≤v→ch (.cons (.int .i64) (.cons (.int .i64) (.cons (.int .i64) (.cons (.int .i64) (.cons (.int .i64) (.cons (.int .i64) (.cons (.int .i64) (.cons cW (.cons .bool (.one .str)))))))))) (j,m,p,q,r,s,t,i,u,d)):=by
 obtain⟨o0,o1,o2,o3,o4,o5,o6,o7,o8,o9⟩:=ho;refine W.succ ((Sj i o7).mono fun n h0 b aj ak=> ?_)
 rw [anV];obtain⟨v0,z,al,ad⟩:=h0 b (by omega) (by omega)
 rw [z];simp only [Z];by_cases f:v0<0
 ·rw [ez f];exact⟨-1,rfl,by omega,fun h=>absurd h (by omega)⟩
 rw [hJ f];simp only [da];have t7:=ad (by omega)
 rw [eC (cur:=v0) (k:=d.length) (by omega) (by omega) o9]
 obtain⟨v1,ae⟩: ∃v:Int,v=v0-(d.length:Int):=⟨_,rfl⟩
 rw [←ae];by_cases g:v1<0
 ·rw [ez g];exact⟨-1,rfl,by omega,fun h=>absurd h (by omega)⟩
 rw [hJ g];simp only [da];have t9:d.length≤1048576:=by omega
 exact⟨v1,rfl,by omega,fun _=>(And.intro trivial (And.intro trivial (And.intro trivial (And.intro trivial (And.intro trivial (And.intro trivial (And.intro trivial (And.intro t7 (And.intro trivial t9)))))))))⟩
theorem Sm (b:bw) (q:dL eh b):W fun n=> ∀d:Int,0≤d→d≤1048576→ ∃v:Int,yy n b d=some v∧v≤1048576∧(0≤v→dp eh b):=by
 by_cases hlen:b.length≤1048576
 ·have f:=oq (sm:=fun x=>ch (ak eh) x) (l:=b) hlen (L:=fun n m i left=>yz n m i left b) ?_ (fun n m left=>by rw [Pw];simp)
  ·refine W.succ (f.mono fun n h d g j=> ?_)
   rw [Pv,eC (cur:=d) (k:=b.length) g j q.1];by_cases c:(d-(b.length:Int))<0
   ·rw [ez c];exact⟨-1,rfl,by omega,fun h=>absurd h (by omega)⟩
   rw [hJ c];obtain⟨r,e,k1,k2⟩:=h (d-(b.length:Int)) (by omega) (by omega)
   simp only [da,e,Z];cases r with
   |inl v=>exact⟨v,rfl,(k1 v rfl).2.1,fun _=>And.intro hlen (k1 v rfl).2.2⟩
   |inr v=>exact⟨v,rfl,by rw [k2 v rfl];omega,fun h=>absurd h (by rw [k2 v rfl];omega)⟩
  ·refine(W.all b fun x s=>ayT x.1 x.2.1 x.2.2.1 x.2.2.2.1 x.2.2.2.2.1 x.2.2.2.2.2.1 x.2.2.2.2.2.2.1 x.2.2.2.2.2.2.2.1 x.2.2.2.2.2.2.2.2.1 x.2.2.2.2.2.2.2.2.2 (q.2 x s)).mono fun n h m i x left hi t u=> ?_
   obtain⟨p,rfl⟩:=List.getElem?_eq_some_iff.1 hi
   obtain⟨v,e,k1,k2⟩:=h _ (List.getElem_mem p) left t u;refine⟨v, ?_,k1,k2⟩
   rw [Pw,ez (by omega),bj p]
   simp only [Y,Z,e]
 ·refine W.succ (W.of fun n d g j=> ?_)
  rw [Pv,eC (cur:=d) (k:=b.length) g j q.1,ez (by omega)]
  exact⟨-1,rfl,by omega,fun h=>absurd h (by omega)⟩
theorem ayU (x0:Int) (x1:Int) (x2:Int) (x3:Int) (x4:Int) (x5:aY) (x6:ae) (x7:ai) (x8:Int) (x9:Int) (d:ah) (f:O) (ad:Int) (g:cg) (i:ah) (j:ah) (af:Int) (k:ae) (m:ai) (p:Int) (q:Int) (r:ah) (s:O) (t:bX) (u:Int) (z:bw) (ho:fr (.cons (.int .i64) (.cons (.int .i64) (.cons (.int .i64) (.cons (.int .i64) (.cons (.int .i64) (.cons cW (.cons aK (.cons bN (.cons (.int .i64) (.cons (.int .i64) (.cons bf (.cons .str (.cons (.int .i64) (.cons hY (.cons bf (.cons bf (.cons (.int .i64) (.cons aK (.cons bN (.cons (.int .i64) (.cons (.int .i64) (.cons bf (.cons .str (.cons eX (.cons (.int .i64) (.one eh)))))))))))))))))))))))))) (x0,x1,x2,x3,x4,x5,x6,x7,x8,x9,d,f,ad,g,i,j,af,k,m,p,q,r,s,t,u,z)):W fun n=> ∀b:Int,0≤b→b≤1048576→ ∃v:Int,Fg n x0 x1 x2 x3 x4 x5 x6 x7 x8 x9 d f ad g i j af k m p q r s t u z b=some v∧v≤1048576∧(0≤v→ch (.cons (.int .i64) (.cons (.int .i64) (.cons (.int .i64) (.cons (.int .i64) (.cons (.int .i64) (.cons cW (.cons aK (.cons bN (.cons (.int .i64) (.cons (.int .i64) (.cons bf (.cons .str (.cons (.int .i64) (.cons hY (.cons bf (.cons bf (.cons (.int .i64) (.cons aK (.cons bN (.cons (.int .i64) (.cons (.int .i64) (.cons bf (.cons .str (.cons eX (.cons (.int .i64) (.one eh)))))))))))))))))))))))))) (x0,x1,x2,x3,x4,x5,x6,x7,x8,x9,d,f,ad,g,i,j,af,k,m,p,q,r,s,t,u,z)):=by
 obtain⟨o0,o1,o2,o3,o4,o5,o6,o7,o8,o9,bd,bg,c7,bh,bj,bk,c8,bm,bn,bo,bp,bq,br,bt,bu,bx⟩:=ho;refine W.succ ((((((((ayP x1 x2 x3 x4 x5 x6 x7 x8 x9 d f (And.intro o1 (And.intro o2 (And.intro o3 (And.intro o4 (And.intro o5 (And.intro o6 (And.intro o7 (And.intro o8 (And.intro o9 (And.intro bd bg))))))))))).and (ayQ g bh)).and (wq i bj)).and (wq j bk)).and (Sl k m p q r s (And.intro bm (And.intro bn (And.intro bo (And.intro bp (And.intro bq br))))))).and (ayS t u (And.intro bt bu))).and (Sm z bx)).mono fun n ⟨⟨⟨⟨⟨⟨h0,h1⟩,h2⟩,h3⟩,h4⟩,h5⟩,h6⟩ b dh di=> ?_)
 rw [anI];obtain⟨v0,bz,dj,ca⟩:=h0 b (by omega) (by omega)
 rw [bz];simp only [Z];by_cases ag:v0<0
 ·rw [ez ag];exact⟨-1,rfl,by omega,fun h=>absurd h (by omega)⟩
 rw [hJ ag];simp only [da];obtain⟨t1,t2,t3,t4,t5,t6,t7,t8,t9,t10,t11⟩:=ca (by omega)
 obtain⟨v1,cb,dk,cc⟩:=h1 v0 (by omega) (by omega)
 rw [cb];simp only [Z];by_cases aj:v1<0
 ·rw [ez aj];exact⟨-1,rfl,by omega,fun h=>absurd h (by omega)⟩
 rw [hJ aj];simp only [da];have t13:=cc (by omega)
 obtain⟨v2,cf,dm,cj⟩:=h2 v1 (by omega) (by omega)
 rw [cf];simp only [Z];by_cases ak:v2<0
 ·rw [ez ak];exact⟨-1,rfl,by omega,fun h=>absurd h (by omega)⟩
 rw [hJ ak];simp only [da];have t14:=cj (by omega)
 obtain⟨v3,ck,dn,cl⟩:=h3 v2 (by omega) (by omega)
 rw [ck];simp only [Z];by_cases al:v3<0
 ·rw [ez al];exact⟨-1,rfl,by omega,fun h=>absurd h (by omega)⟩
 rw [hJ al];simp only [da];have t15:=cl (by omega)
 obtain⟨v4,cm,dp,cn⟩:=h4 v3 (by omega) (by omega)
 rw [cm];simp only [Z];by_cases ao:v4<0
 ·rw [ez ao];exact⟨-1,rfl,by omega,fun h=>absurd h (by omega)⟩
 rw [hJ ao];simp only [da];obtain⟨t17,t18,t19,t20,t21,t22⟩:=cn (by omega)
 obtain⟨v5,cp,dq,cq⟩:=h5 v4 (by omega) (by omega)
 rw [cp];simp only [Z];by_cases aq:v5<0
 ·rw [ez aq];exact⟨-1,rfl,by omega,fun h=>absurd h (by omega)⟩
 rw [hJ aq];simp only [da];obtain⟨t23,t24⟩:=cq (by omega)
 obtain⟨v6,cr,dr,ct⟩:=h6 v5 (by omega) (by omega)
 rw [cr];simp only [Z];by_cases ar:v6<0
 ·rw [ez ar];exact⟨-1,rfl,by omega,fun h=>absurd h (by omega)⟩
 rw [hJ ar];simp only [da];have t25:=ct (by omega)
 exact⟨v6,rfl,by omega,fun _=>(And.intro trivial (And.intro t1 (And.intro t2 (And.intro t3 (And.intro t4 (And.intro t5 (And.intro t6 (And.intro t7 (And.intro t8 (And.intro t9 (And.intro t10 (And.intro t11 (And.intro trivial (And.intro t13 (And.intro t14 (And.intro t15 (And.intro trivial (And.intro t17 (And.intro t18 (And.intro t19 (And.intro t20 (And.intro t21 (And.intro t22 (And.intro t23 (And.intro t24 t25)))))))))))))))))))))))))⟩
theorem ayV (b:cu) (q:dL fy b):W fun n=> ∀d:Int,0≤d→d≤1048576→ ∃v:Int,Ff n b d=some v∧v≤1048576∧(0≤v→dp fy b):=by
 by_cases hlen:b.length≤1048576
 ·have f:=oq (sm:=fun x=>ch (ak fy) x) (l:=b) hlen (L:=fun n m i left=>yp n m i left b) ?_ (fun n m left=>by rw [Po];simp)
  ·refine W.succ (f.mono fun n h d g j=> ?_)
   rw [Pn,eC (cur:=d) (k:=b.length) g j q.1];by_cases c:(d-(b.length:Int))<0
   ·rw [ez c];exact⟨-1,rfl,by omega,fun h=>absurd h (by omega)⟩
   rw [hJ c];obtain⟨r,e,k1,k2⟩:=h (d-(b.length:Int)) (by omega) (by omega)
   simp only [da,e,Z];cases r with
   |inl v=>exact⟨v,rfl,(k1 v rfl).2.1,fun _=>And.intro hlen (k1 v rfl).2.2⟩
   |inr v=>exact⟨v,rfl,by rw [k2 v rfl];omega,fun h=>absurd h (by rw [k2 v rfl];omega)⟩
  ·refine(W.all b fun x s=>ayU x.1 x.2.1 x.2.2.1 x.2.2.2.1 x.2.2.2.2.1 x.2.2.2.2.2.1 x.2.2.2.2.2.2.1 x.2.2.2.2.2.2.2.1 x.2.2.2.2.2.2.2.2.1 x.2.2.2.2.2.2.2.2.2.1 x.2.2.2.2.2.2.2.2.2.2.1 x.2.2.2.2.2.2.2.2.2.2.2.1 x.2.2.2.2.2.2.2.2.2.2.2.2.1 x.2.2.2.2.2.2.2.2.2.2.2.2.2.1 x.2.2.2.2.2.2.2.2.2.2.2.2.2.2.1 x.2.2.2.2.2.2.2.2.2.2.2.2.2.2.2.1 x.2.2.2.2.2.2.2.2.2.2.2.2.2.2.2.2.1 x.2.2.2.2.2.2.2.2.2.2.2.2.2.2.2.2.2.1 x.2.2.2.2.2.2.2.2.2.2.2.2.2.2.2.2.2.2.1 x.2.2.2.2.2.2.2.2.2.2.2.2.2.2.2.2.2.2.2.1 x.2.2.2.2.2.2.2.2.2.2.2.2.2.2.2.2.2.2.2.2.1 x.2.2.2.2.2.2.2.2.2.2.2.2.2.2.2.2.2.2.2.2.2.1 x.2.2.2.2.2.2.2.2.2.2.2.2.2.2.2.2.2.2.2.2.2.2.1 x.2.2.2.2.2.2.2.2.2.2.2.2.2.2.2.2.2.2.2.2.2.2.2.1 x.2.2.2.2.2.2.2.2.2.2.2.2.2.2.2.2.2.2.2.2.2.2.2.2.1 x.2.2.2.2.2.2.2.2.2.2.2.2.2.2.2.2.2.2.2.2.2.2.2.2.2 (q.2 x s)).mono fun n h m i x left hi t u=> ?_
   obtain⟨p,rfl⟩:=List.getElem?_eq_some_iff.1 hi
   obtain⟨v,e,k1,k2⟩:=h _ (List.getElem_mem p) left t u;refine⟨v, ?_,k1,k2⟩
   rw [Po,ez (by omega),bj p]
   simp only [Y,Z,e]
 ·refine W.succ (W.of fun n d g j=> ?_)
  rw [Pn,eC (cur:=d) (k:=b.length) g j q.1,ez (by omega)]
  exact⟨-1,rfl,by omega,fun h=>absurd h (by omega)⟩
theorem ayW (g:Int) (b:O) (j:fr (.cons (.int .i64) (.one .str)) (g,b)):W fun n=> ∀d:Int,0≤d→d≤1048576→ ∃v:Int,Fu n g b d=some v∧v≤1048576∧(0≤v→ch (.cons (.int .i64) (.one .str)) (g,b)):=by
 obtain⟨r,m⟩:=j;refine W.succ (W.of fun n d p q=> ?_)
 rw [anW];rw [eC (cur:=d) (k:=b.length) (by omega) (by omega) m]
 obtain⟨v0,i⟩: ∃v:Int,v=d-(b.length:Int):=⟨_,rfl⟩
 rw [←i];by_cases f:v0<0
 ·rw [ez f];exact⟨-1,rfl,by omega,fun h=>absurd h (by omega)⟩
 rw [hJ f];simp only [da];have t1:b.length≤1048576:=by omega
 exact⟨v0,rfl,by omega,fun _=>(And.intro trivial t1)⟩
theorem ayX (b:ae) (q:dL aK b):W fun n=> ∀d:Int,0≤d→d≤1048576→ ∃v:Int,Fv n b d=some v∧v≤1048576∧(0≤v→dp aK b):=by
 by_cases hlen:b.length≤1048576
 ·have f:=oq (sm:=fun x=>ch (ak aK) x) (l:=b) hlen (L:=fun n m i left=>yA n m i left b) ?_ (fun n m left=>by rw [Py];simp)
  ·refine W.succ (f.mono fun n h d g j=> ?_)
   rw [Px,eC (cur:=d) (k:=b.length) g j q.1];by_cases c:(d-(b.length:Int))<0
   ·rw [ez c];exact⟨-1,rfl,by omega,fun h=>absurd h (by omega)⟩
   rw [hJ c];obtain⟨r,e,k1,k2⟩:=h (d-(b.length:Int)) (by omega) (by omega)
   simp only [da,e,Z];cases r with
   |inl v=>exact⟨v,rfl,(k1 v rfl).2.1,fun _=>And.intro hlen (k1 v rfl).2.2⟩
   |inr v=>exact⟨v,rfl,by rw [k2 v rfl];omega,fun h=>absurd h (by rw [k2 v rfl];omega)⟩
  ·refine(W.all b fun x s=>Si x.1 x.2.1 x.2.2 (q.2 x s)).mono fun n h m i x left hi t u=> ?_
   obtain⟨p,rfl⟩:=List.getElem?_eq_some_iff.1 hi
   obtain⟨v,e,k1,k2⟩:=h _ (List.getElem_mem p) left t u;refine⟨v, ?_,k1,k2⟩
   rw [Py,ez (by omega),bj p]
   simp only [Y,Z,e]
 ·refine W.succ (W.of fun n d g j=> ?_)
  rw [Px,eC (cur:=d) (k:=b.length) g j q.1,ez (by omega)]
  exact⟨-1,rfl,by omega,fun h=>absurd h (by omega)⟩
theorem ayY (r:af) (s:af) (t:ae) (u:ae) (x4:Int) (z:cu) (x6:bw) (x7:Int) (x8:O) (x9:ah) (d:ah) (f:ae) (ho:fr (.cons cD (.cons cD (.cons aK (.cons aK (.cons (.int .i64) (.cons fy (.cons eh (.cons (.int .i64) (.cons .str (.cons bf (.cons bf (.one aK)))))))))))) (r,s,t,u,x4,z,x6,x7,x8,x9,d,f)):W fun n=> ∀b:Int,0≤b→b≤1048576→ ∃v:Int,Fa n r s t u x4 z x6 x7 x8 x9 d f b=some v∧v≤1048576∧(0≤v→ch (.cons cD (.cons cD (.cons aK (.cons aK (.cons (.int .i64) (.cons fy (.cons eh (.cons (.int .i64) (.cons .str (.cons bf (.cons bf (.one aK)))))))))))) (r,s,t,u,x4,z,x6,x7,x8,x9,d,f)):=by
 obtain⟨o0,o1,o2,o3,o4,o5,o6,o7,o8,o9,al,ao⟩:=ho;refine W.succ ((((((((ayI r s t u (And.intro o0 (And.intro o1 (And.intro o2 o3)))).and (ayV z o5)).and (Sm x6 o6)).and (ayW x7 x8 (And.intro o7 o8))).and (wq x9 o9)).and (wq d al)).and (ayX f ao)).mono fun n ⟨⟨⟨⟨⟨⟨h0,h1⟩,h2⟩,h3⟩,h4⟩,h5⟩,h6⟩ b cg cj=> ?_)
 rw [anF];obtain⟨v0,aq,ck,ar⟩:=h0 b (by omega) (by omega)
 rw [aq];simp only [Z];by_cases g:v0<0
 ·rw [ez g];exact⟨-1,rfl,by omega,fun h=>absurd h (by omega)⟩
 rw [hJ g];simp only [da];obtain⟨t0,t1,t2,t3⟩:=ar (by omega)
 obtain⟨v1,au,cl,av⟩:=h1 v0 (by omega) (by omega)
 rw [au];simp only [Z];by_cases i:v1<0
 ·rw [ez i];exact⟨-1,rfl,by omega,fun h=>absurd h (by omega)⟩
 rw [hJ i];simp only [da];have t5:=av (by omega)
 obtain⟨v2,aw,cm,ax⟩:=h2 v1 (by omega) (by omega)
 rw [aw];simp only [Z];by_cases j:v2<0
 ·rw [ez j];exact⟨-1,rfl,by omega,fun h=>absurd h (by omega)⟩
 rw [hJ j];simp only [da];have t6:=ax (by omega)
 obtain⟨v3,ay,cn,az⟩:=h3 v2 (by omega) (by omega)
 rw [ay];simp only [Z];by_cases k:v3<0
 ·rw [ez k];exact⟨-1,rfl,by omega,fun h=>absurd h (by omega)⟩
 rw [hJ k];simp only [da];obtain⟨t7,t8⟩:=az (by omega)
 obtain⟨v4,a1,cp,a6⟩:=h4 v3 (by omega) (by omega)
 rw [a1];simp only [Z];by_cases m:v4<0
 ·rw [ez m];exact⟨-1,rfl,by omega,fun h=>absurd h (by omega)⟩
 rw [hJ m];simp only [da];have t9:=a6 (by omega)
 obtain⟨v5,a7,cq,a8⟩:=h5 v4 (by omega) (by omega)
 rw [a7];simp only [Z];by_cases p:v5<0
 ·rw [ez p];exact⟨-1,rfl,by omega,fun h=>absurd h (by omega)⟩
 rw [hJ p];simp only [da];have t10:=a8 (by omega)
 obtain⟨v6,bd,cr,bg⟩:=h6 v5 (by omega) (by omega)
 rw [bd];simp only [Z];by_cases q:v6<0
 ·rw [ez q];exact⟨-1,rfl,by omega,fun h=>absurd h (by omega)⟩
 rw [hJ q];simp only [da];have t11:=bg (by omega)
 exact⟨v6,rfl,by omega,fun _=>(And.intro t0 (And.intro t1 (And.intro t2 (And.intro t3 (And.intro trivial (And.intro t5 (And.intro t6 (And.intro t7 (And.intro t8 (And.intro t9 (And.intro t10 t11)))))))))))⟩
theorem Sn (f:af) (j:dp cD f):W fun n=>yB n f=some f:=by
 have hlen:f.length≤1048576:=j.1;have b:=kE (a:=f) (d:=([]:O)) hlen (L:=fun n m i out=>yC n m i f out) ?_ (fun n m out=>by rw [Pz];simp)
 ·refine W.succ (b.mono fun n h=> ?_)
  rw [anZ,ez (by unfold big;omega)]
  simp only [Y,Int.toNat_natCast,h,Z,ay]
 ·refine W.of fun n m i out hi g=> ?_
  rw [Pz,ez (by omega),bj hi]
  simp only [Y,Z];rw [ez (by omega),fe (l:=out) (by omega)]
  simp only [Y,Z,Int.toNat_natCast]
theorem ayZ (b:Int) (d:Int) (f:O) (_:ch (.cons (.int .i64) (.cons (.int .i64) (.one .str))) (b,d,f)):W fun n=>Fx n b d f=some (b,d,f):=by
 exact W.succ (W.of fun n=>by rw [aoB])
theorem Sp (b:ae) (j:dp aK b):W fun n=>yD n b=some b:=by
 have hlen:b.length≤1048576:=j.1;have f:=kE (a:=b) (d:=((0:Int),(0:Int),([]:O))) hlen (L:=fun n m i out=>yE n m i b out) ?_ (fun n m out=>by rw [PA];simp)
 ·refine W.succ (f.mono fun n h=> ?_)
  rw [aoA,ez (by unfold big;omega)]
  simp only [Y,Int.toNat_natCast,h,Z,ay]
 ·refine(W.all b fun x g=>ayZ x.1 x.2.1 x.2.2 (j.2 x g)).mono fun n h m i out hi k=> ?_
  have g:=h _ (List.getElem_mem hi);rw [PA,ez (by omega),bj hi]
  simp only [Y,Z,g];rw [ez (by omega),fe (l:=out) (by omega)]
  simp only [Y,Z,Int.toNat_natCast]
theorem azA (b:af) (d:af) (f:ae) (g:ae) (h:ch (.cons cD (.cons cD (.cons aK (.one aK)))) (b,d,f,g)):W fun n=>Fw n b d f g=some (b,d,f,g):=by
 obtain⟨i,s1,s2,j⟩:=h;refine W.succ (((((Sn b i).and (Sn d s1)).and (Sp f s2)).and (Sp g j)).mono fun n ⟨⟨⟨k,m⟩,p⟩,q⟩=> ?_)
 rw [anY];simp only [k,m,p,q,Z]
theorem Sq (b:Int) (d:Int) (f:O) (_:ch (.cons (.int .i64) (.cons (.int .i64) (.one .str))) (b,d,f)):W fun n=>yI n b d f=some (b,d,f):=by
 exact W.succ (W.of fun n=>by rw [aoI])
theorem azB (g:Int) (b:Int) (d:Int) (f:O) (h:ch (.cons (.int .i64) (.cons (.int .i64) (.cons (.int .i64) (.one .str)))) (g,b,d,f)):W fun n=>FC n g b d f=some (g,b,d,f):=by
 obtain⟨k,s1,s2,i⟩:=h;refine W.succ ((Sq b d f (And.intro s1 (And.intro s2 i))).mono fun n j=> ?_)
 rw [aoH];simp only [j,Z]
theorem Sr (b:aY) (j:dp cW b):W fun n=>yG n b=some b:=by
 have hlen:b.length≤1048576:=j.1;have f:=kE (a:=b) (d:=((0:Int),(0:Int),(0:Int),([]:O))) hlen (L:=fun n m i out=>yH n m i b out) ?_ (fun n m out=>by rw [PD];simp)
 ·refine W.succ (f.mono fun n h=> ?_)
  rw [aoG,ez (by unfold big;omega)]
  simp only [Y,Int.toNat_natCast,h,Z,ay]
 ·refine(W.all b fun x g=>azB x.1 x.2.1 x.2.2.1 x.2.2.2 (j.2 x g)).mono fun n h m i out hi k=> ?_
  have g:=h _ (List.getElem_mem hi);rw [PD,ez (by omega),bj hi]
  simp only [Y,Z,g];rw [ez (by omega),fe (l:=out) (by omega)]
  simp only [Y,Z,Int.toNat_natCast]
theorem azC (d:Int) (f:Int) (b:aY) (g:ch (.cons (.int .i64) (.cons (.int .i64) (.one cW))) (d,f,b)):W fun n=>FB n d f b=some (d,f,b):=by
 obtain⟨i,s1,s2⟩:=g;refine W.succ ((Sr b s2).mono fun n h=> ?_)
 rw [aoF];simp only [h,Z]
theorem Ss (b:Int) (d:Int) (f:O) (_:ch (.cons (.int .i64) (.cons (.int .i64) (.one .str))) (b,d,f)):W fun n=>yL n b d f=some (b,d,f):=by
 exact W.succ (W.of fun n=>by rw [aoM])
theorem azD (b:ae) (j:dp aK b):W fun n=>FE n b=some b:=by
 have hlen:b.length≤1048576:=j.1;have f:=kE (a:=b) (d:=((0:Int),(0:Int),([]:O))) hlen (L:=fun n m i out=>yK n m i b out) ?_ (fun n m out=>by rw [PE];simp)
 ·refine W.succ (f.mono fun n h=> ?_)
  rw [aoL,ez (by unfold big;omega)]
  simp only [Y,Int.toNat_natCast,h,Z,ay]
 ·refine(W.all b fun x g=>Ss x.1 x.2.1 x.2.2 (j.2 x g)).mono fun n h m i out hi k=> ?_
  have g:=h _ (List.getElem_mem hi);rw [PE,ez (by omega),bj hi]
  simp only [Y,Z,g];rw [ez (by omega),fe (l:=out) (by omega)]
  simp only [Y,Z,Int.toNat_natCast]
theorem azE (g:Int) (h:O) (b:Int) (d:Int) (f:O) (i:ch (.cons (.int .i64) (.cons .str (.cons (.int .i64) (.cons (.int .i64) (.one .str))))) (g,h,b,d,f)):W fun n=>FH n g h b d f=some (g,h,b,d,f):=by
 obtain⟨p,s1,s2,j,k⟩:=i;refine W.succ ((Ss b d f (And.intro s2 (And.intro j k))).mono fun n m=> ?_)
 rw [aoO];simp only [m,Z]
theorem azF (b:ai) (j:dp bN b):W fun n=>FF n b=some b:=by
 have hlen:b.length≤1048576:=j.1;have f:=kE (a:=b) (d:=((0:Int),([]:O),(0:Int),(0:Int),([]:O))) hlen (L:=fun n m i out=>yM n m i b out) ?_ (fun n m out=>by rw [PF];simp)
 ·refine W.succ (f.mono fun n h=> ?_)
  rw [aoN,ez (by unfold big;omega)]
  simp only [Y,Int.toNat_natCast,h,Z,ay]
 ·refine(W.all b fun x g=>azE x.1 x.2.1 x.2.2.1 x.2.2.2.1 x.2.2.2.2 (j.2 x g)).mono fun n h m i out hi k=> ?_
  have g:=h _ (List.getElem_mem hi);rw [PF,ez (by omega),bj hi]
  simp only [Y,Z,g];rw [ez (by omega),fe (l:=out) (by omega)]
  simp only [Y,Z,Int.toNat_natCast]
theorem azG (b:ae) (d:ai) (f:Int) (g:Int) (h:ch (.cons aK (.cons bN (.cons (.int .i64) (.one (.int .i64))))) (b,d,f,g)):W fun n=>FD n b d f g=some (b,d,f,g):=by
 obtain⟨i,s1,s2,m⟩:=h;refine W.succ (((azD b i).and (azF d s1)).mono fun n ⟨j,k⟩=> ?_)
 rw [aoK];simp only [j,k,Z]
theorem wx (f:ah) (j:dp bf f):W fun n=>qp n f=some f:=by
 have hlen:f.length≤1048576:=j.1;have b:=kE (a:=f) (d:=(0:Int)) hlen (L:=fun n m i out=>yN n m i f out) ?_ (fun n m out=>by rw [PG];simp)
 ·refine W.succ (b.mono fun n h=> ?_)
  rw [aoP,ez (by unfold big;omega)]
  simp only [Y,Int.toNat_natCast,h,Z,ay]
 ·refine W.of fun n m i out hi g=> ?_
  rw [PG,ez (by omega),bj hi]
  simp only [Y,Z];rw [ez (by omega),fe (l:=out) (by omega)]
  simp only [Y,Z,Int.toNat_natCast]
theorem Sv (b:ae) (d:ai) (f:Int) (g:Int) (h:ah) (i:O) (j:ch (.cons aK (.cons bN (.cons (.int .i64) (.cons (.int .i64) (.cons bf (.one .str)))))) (b,d,f,g,h,i)):W fun n=>yJ n b d f g h i=some (b,d,f,g,h,i):=by
 obtain⟨k,s1,s2,m,p,s⟩:=j;refine W.succ (((azG b d f g (And.intro k (And.intro s1 (And.intro s2 m)))).and (wx h p)).mono fun n ⟨q,r⟩=> ?_)
 rw [aoJ];simp only [q,r,Z]
theorem azH (p:Int) (q:Int) (d:Int) (f:Int) (g:aY) (h:ae) (i:ai) (j:Int) (k:Int) (m:ah) (b:O) (s:ch (.cons (.int .i64) (.cons (.int .i64) (.cons (.int .i64) (.cons (.int .i64) (.cons cW (.cons aK (.cons bN (.cons (.int .i64) (.cons (.int .i64) (.cons bf (.one .str))))))))))) (p,q,d,f,g,h,i,j,k,m,b)):W fun n=>FA n p q d f g h i j k m b=some (p,q,d,f,g,h,i,j,k,m,b):=by
 obtain⟨s0,s1,s2,t,u,z,s6,s7,s8,s9,r⟩:=s;refine W.succ (((azC d f g (And.intro s2 (And.intro t u))).and (Sv h i j k m b (And.intro z (And.intro s6 (And.intro s7 (And.intro s8 (And.intro s9 r))))))).mono fun n ⟨h0,h1⟩=> ?_)
 rw [aoE];simp only [h0,h1,Z]
theorem azI (f:cg) (j:dp hY f):W fun n=>FI n f=some f:=by
 have hlen:f.length≤1048576:=j.1;have b:=kE (a:=f) (d:=false) hlen (L:=fun n m i out=>yO n m i f out) ?_ (fun n m out=>by rw [PH];simp)
 ·refine W.succ (b.mono fun n h=> ?_)
  rw [aoQ,ez (by unfold big;omega)]
  simp only [Y,Int.toNat_natCast,h,Z,ay]
 ·refine W.of fun n m i out hi g=> ?_
  rw [PH,ez (by omega),bj hi]
  simp only [Y,Z];rw [ez (by omega),fe (l:=out) (by omega)]
  simp only [Y,Z,Int.toNat_natCast]
theorem azJ (f:bX) (j:dp eX f):W fun n=>FK n f=some f:=by
 have hlen:f.length≤1048576:=j.1;have b:=kE (a:=f) (d:=(0:UInt8)) hlen (L:=fun n m i out=>yP n m i f out) ?_ (fun n m out=>by rw [PI];simp)
 ·refine W.succ (b.mono fun n h=> ?_)
  rw [aoS,ez (by unfold big;omega)]
  simp only [Y,Int.toNat_natCast,h,Z,ay]
 ·refine W.of fun n m i out hi g=> ?_
  rw [PI,ez (by omega),bj hi]
  simp only [Y,Z];rw [ez (by omega),fe (l:=out) (by omega)]
  simp only [Y,Z,Int.toNat_natCast,UInt8.ofNat_toNat]
theorem azK (b:bX) (d:Int) (f:ch (.cons eX (.one (.int .i64))) (b,d)):W fun n=>FJ n b d=some (b,d):=by
 obtain⟨g,s1⟩:=f;refine W.succ ((azJ b g).mono fun n h=> ?_)
 rw [aoR];simp only [h,Z]
theorem azL (d:Int) (f:Int) (g:Int) (h:Int) (i:Int) (j:Int) (k:Int) (b:aY) (m:Bool) (p:O) (q:ch (.cons (.int .i64) (.cons (.int .i64) (.cons (.int .i64) (.cons (.int .i64) (.cons (.int .i64) (.cons (.int .i64) (.cons (.int .i64) (.cons cW (.cons .bool (.one .str)))))))))) (d,f,g,h,i,j,k,b,m,p)):W fun n=>FL n d f g h i j k b m p=some (d,f,g,h,i,j,k,b,m,p):=by
 obtain⟨t,s1,s2,u,z,s5,s6,r,s8,s9⟩:=q;refine W.succ ((Sr b r).mono fun n s=> ?_)
 rw [aoU];simp only [s,Z]
theorem Sw (b:bw) (j:dp eh b):W fun n=>yQ n b=some b:=by
 have hlen:b.length≤1048576:=j.1;have f:=kE (a:=b) (d:=((0:Int),(0:Int),(0:Int),(0:Int),(0:Int),(0:Int),(0:Int),([]:aY),false,([]:O))) hlen (L:=fun n m i out=>yR n m i b out) ?_ (fun n m out=>by rw [PJ];simp)
 ·refine W.succ (f.mono fun n h=> ?_)
  rw [aoT,ez (by unfold big;omega)]
  simp only [Y,Int.toNat_natCast,h,Z,ay]
 ·refine(W.all b fun x g=>azL x.1 x.2.1 x.2.2.1 x.2.2.2.1 x.2.2.2.2.1 x.2.2.2.2.2.1 x.2.2.2.2.2.2.1 x.2.2.2.2.2.2.2.1 x.2.2.2.2.2.2.2.2.1 x.2.2.2.2.2.2.2.2.2 (j.2 x g)).mono fun n h m i out hi k=> ?_
  have g:=h _ (List.getElem_mem hi);rw [PJ,ez (by omega),bj hi]
  simp only [Y,Z,g];rw [ez (by omega),fe (l:=out) (by omega)]
  simp only [Y,Z,Int.toNat_natCast]
theorem azM (x0:Int) (x1:Int) (x2:Int) (x3:Int) (x4:Int) (x5:aY) (x6:ae) (x7:ai) (x8:Int) (x9:Int) (b:ah) (d:O) (u:Int) (f:cg) (g:ah) (h:ah) (z:Int) (i:ae) (j:ai) (k:Int) (m:Int) (p:ah) (q:O) (r:bX) (s:Int) (t:bw) (hs:ch (.cons (.int .i64) (.cons (.int .i64) (.cons (.int .i64) (.cons (.int .i64) (.cons (.int .i64) (.cons cW (.cons aK (.cons bN (.cons (.int .i64) (.cons (.int .i64) (.cons bf (.cons .str (.cons (.int .i64) (.cons hY (.cons bf (.cons bf (.cons (.int .i64) (.cons aK (.cons bN (.cons (.int .i64) (.cons (.int .i64) (.cons bf (.cons .str (.cons eX (.cons (.int .i64) (.one eh)))))))))))))))))))))))))) (x0,x1,x2,x3,x4,x5,x6,x7,x8,x9,b,d,u,f,g,h,z,i,j,k,m,p,q,r,s,t)):W fun n=>Fz n x0 x1 x2 x3 x4 x5 x6 x7 x8 x9 b d u f g h z i j k m p q r s t=some (x0,x1,x2,x3,x4,x5,x6,x7,x8,x9,b,d,u,f,g,h,z,i,j,k,m,p,q,r,s,t):=by
 obtain⟨s0,s1,s2,s3,s4,s5,s6,s7,s8,s9,av,aw,bx,ax,ay,az,bz,a1,a6,a7,a8,bd,bg,bh,bj,bk⟩:=hs;refine W.succ ((((((((azH x1 x2 x3 x4 x5 x6 x7 x8 x9 b d (And.intro s1 (And.intro s2 (And.intro s3 (And.intro s4 (And.intro s5 (And.intro s6 (And.intro s7 (And.intro s8 (And.intro s9 (And.intro av aw))))))))))).and (azI f ax)).and (wx g ay)).and (wx h az)).and (Sv i j k m p q (And.intro a1 (And.intro a6 (And.intro a7 (And.intro a8 (And.intro bd bg))))))).and (azK r s (And.intro bh bj))).and (Sw t bk)).mono fun n ⟨⟨⟨⟨⟨⟨h0,h1⟩,h2⟩,h3⟩,h4⟩,h5⟩,h6⟩=> ?_)
 rw [aoD];simp only [h0,h1,h2,h3,h4,h5,h6,Z]
theorem azN (b:cu) (j:dp fy b):W fun n=>Fy n b=some b:=by
 have hlen:b.length≤1048576:=j.1;have f:=kE (a:=b) (d:=((0:Int),(0:Int),(0:Int),(0:Int),(0:Int),([]:aY),([]:ae),([]:ai),(0:Int),(0:Int),([]:ah),([]:O),(0:Int),([]:cg),([]:ah),([]:ah),(0:Int),([]:ae),([]:ai),(0:Int),(0:Int),([]:ah),([]:O),([]:bX),(0:Int),([]:bw))) hlen (L:=fun n m i out=>yF n m i b out) ?_ (fun n m out=>by rw [PB];simp)
 ·refine W.succ (f.mono fun n h=> ?_)
  rw [aoC,ez (by unfold big;omega)]
  simp only [Y,Int.toNat_natCast,h,Z,ay]
 ·refine(W.all b fun x g=>azM x.1 x.2.1 x.2.2.1 x.2.2.2.1 x.2.2.2.2.1 x.2.2.2.2.2.1 x.2.2.2.2.2.2.1 x.2.2.2.2.2.2.2.1 x.2.2.2.2.2.2.2.2.1 x.2.2.2.2.2.2.2.2.2.1 x.2.2.2.2.2.2.2.2.2.2.1 x.2.2.2.2.2.2.2.2.2.2.2.1 x.2.2.2.2.2.2.2.2.2.2.2.2.1 x.2.2.2.2.2.2.2.2.2.2.2.2.2.1 x.2.2.2.2.2.2.2.2.2.2.2.2.2.2.1 x.2.2.2.2.2.2.2.2.2.2.2.2.2.2.2.1 x.2.2.2.2.2.2.2.2.2.2.2.2.2.2.2.2.1 x.2.2.2.2.2.2.2.2.2.2.2.2.2.2.2.2.2.1 x.2.2.2.2.2.2.2.2.2.2.2.2.2.2.2.2.2.2.1 x.2.2.2.2.2.2.2.2.2.2.2.2.2.2.2.2.2.2.2.1 x.2.2.2.2.2.2.2.2.2.2.2.2.2.2.2.2.2.2.2.2.1 x.2.2.2.2.2.2.2.2.2.2.2.2.2.2.2.2.2.2.2.2.2.1 x.2.2.2.2.2.2.2.2.2.2.2.2.2.2.2.2.2.2.2.2.2.2.1 x.2.2.2.2.2.2.2.2.2.2.2.2.2.2.2.2.2.2.2.2.2.2.2.1 x.2.2.2.2.2.2.2.2.2.2.2.2.2.2.2.2.2.2.2.2.2.2.2.2.1 x.2.2.2.2.2.2.2.2.2.2.2.2.2.2.2.2.2.2.2.2.2.2.2.2.2 (j.2 x g)).mono fun n h m i out hi k=> ?_
  have g:=h _ (List.getElem_mem hi);rw [PB,ez (by omega),bj hi]
  simp only [Y,Z,g];rw [ez (by omega),fe (l:=out) (by omega)]
  simp only [Y,Z,Int.toNat_natCast]
theorem azO (b:Int) (d:O) (_:ch (.cons (.int .i64) (.one .str)) (b,d)):W fun n=>FM n b d=some (b,d):=by
 exact W.succ (W.of fun n=>by rw [aoV])
theorem azP (b:ae) (j:dp aK b):W fun n=>FN n b=some b:=by
 have hlen:b.length≤1048576:=j.1;have f:=kE (a:=b) (d:=((0:Int),(0:Int),([]:O))) hlen (L:=fun n m i out=>yS n m i b out) ?_ (fun n m out=>by rw [PK];simp)
 ·refine W.succ (f.mono fun n h=> ?_)
  rw [aoW,ez (by unfold big;omega)]
  simp only [Y,Int.toNat_natCast,h,Z,ay]
 ·refine(W.all b fun x g=>Sq x.1 x.2.1 x.2.2 (j.2 x g)).mono fun n h m i out hi k=> ?_
  have g:=h _ (List.getElem_mem hi);rw [PK,ez (by omega),bj hi]
  simp only [Y,Z,g];rw [ez (by omega),fe (l:=out) (by omega)]
  simp only [Y,Z,Int.toNat_natCast]
theorem azQ (f:af) (g:af) (h:ae) (i:ae) (r:Int) (j:cu) (k:bw) (m:Int) (p:O) (q:ah) (b:ah) (d:ae) (u:ch (.cons cD (.cons cD (.cons aK (.cons aK (.cons (.int .i64) (.cons fy (.cons eh (.cons (.int .i64) (.cons .str (.cons bf (.cons bf (.one aK)))))))))))) (f,g,h,i,r,j,k,m,p,q,b,d)):W fun n=>uL n f g h i r j k m p q b d=some (f,g,h,i,r,j,k,m,p,q,b,d):=by
 obtain⟨z,s1,s2,s3,s4,s5,s6,s7,s8,s9,s,t⟩:=u;refine W.succ ((((((((azA f g h i (And.intro z (And.intro s1 (And.intro s2 s3)))).and (azN j s5)).and (Sw k s6)).and (azO m p (And.intro s7 s8))).and (wx q s9)).and (wx b s)).and (azP d t)).mono fun n ⟨⟨⟨⟨⟨⟨h0,h1⟩,h2⟩,h3⟩,h4⟩,h5⟩,h6⟩=> ?_)
 rw [anX];simp only [h0,h1,h2,h3,h4,h5,h6,Z]
theorem Sx (b:af) (f:dp cD b):W fun n=>AV n b b=some true:=by
 have hlen:b.length≤1048576:=f.1;have d:=kF (len:=b.length) hlen (L:=fun n m i=>AW n m i b b) ?_ (fun n m=>by rw [RS];simp)
 ·refine W.succ (d.mono fun n h=> ?_)
  rw [axJ];simp only [bne_self_eq_false,da,h,Z,ay]
 ·refine W.of fun n m i hi=> ?_
  rw [RS,ez (by omega),bj hi]
  simp
theorem azR (b:Int) (d:Int) (f:O) (_:ch (.cons (.int .i64) (.cons (.int .i64) (.one .str))) (b,d,f)):W fun n=>Ip n b d f b d f=some true:=by
 exact W.succ (W.of fun n=>by rw [axL];simp)
theorem Sy (b:ae) (g:dp aK b):W fun n=>AX n b b=some true:=by
 have hlen:b.length≤1048576:=g.1;have d:=kF (len:=b.length) hlen (L:=fun n m i=>AY n m i b b) ?_ (fun n m=>by rw [RU];simp)
 ·refine W.succ (d.mono fun n h=> ?_)
  rw [axK];simp only [bne_self_eq_false,da,h,Z,ay]
 ·refine(W.all b fun x f=>azR x.1 x.2.1 x.2.2 (g.2 x f)).mono fun n h m i hi=> ?_
  have f:=h _ (List.getElem_mem hi);rw [RU,ez (by omega),bj hi]
  simp only [Y,Z,f,Bool.not_true,da]
theorem azS (b:af) (d:af) (f:ae) (g:ae) (h:ch (.cons cD (.cons cD (.cons aK (.one aK)))) (b,d,f,g)):W fun n=>Io n b d f g b d f g=some true:=by
 obtain⟨i,s1,s2,j⟩:=h;refine W.succ (((((Sx b i).and (Sx d s1)).and (Sy f s2)).and (Sy g j)).mono fun n ⟨⟨⟨k,m⟩,p⟩,q⟩=> ?_)
 rw [axI];simp [k,m,p,q]
theorem SA (b:Int) (d:Int) (f:O) (_:ch (.cons (.int .i64) (.cons (.int .i64) (.one .str))) (b,d,f)):W fun n=>Bd n b d f b d f=some true:=by
 exact W.succ (W.of fun n=>by rw [axS];simp)
theorem azT (g:Int) (b:Int) (d:Int) (f:O) (h:ch (.cons (.int .i64) (.cons (.int .i64) (.cons (.int .i64) (.one .str)))) (g,b,d,f)):W fun n=>Iu n g b d f g b d f=some true:=by
 obtain⟨k,s1,s2,i⟩:=h;refine W.succ ((SA b d f (And.intro s1 (And.intro s2 i))).mono fun n j=> ?_)
 rw [axR];simp [j]
theorem SB (b:aY) (g:dp cW b):W fun n=>Ba n b b=some true:=by
 have hlen:b.length≤1048576:=g.1;have d:=kF (len:=b.length) hlen (L:=fun n m i=>Bc n m i b b) ?_ (fun n m=>by rw [RW];simp)
 ·refine W.succ (d.mono fun n h=> ?_)
  rw [axQ];simp only [bne_self_eq_false,da,h,Z,ay]
 ·refine(W.all b fun x f=>azT x.1 x.2.1 x.2.2.1 x.2.2.2 (g.2 x f)).mono fun n h m i hi=> ?_
  have f:=h _ (List.getElem_mem hi);rw [RW,ez (by omega),bj hi]
  simp only [Y,Z,f,Bool.not_true,da]
theorem azU (d:Int) (f:Int) (b:aY) (g:ch (.cons (.int .i64) (.cons (.int .i64) (.one cW))) (d,f,b)):W fun n=>It n d f b d f b=some true:=by
 obtain⟨i,s1,s2⟩:=g;refine W.succ ((SB b s2).mono fun n h=> ?_)
 rw [axP];simp [h]
theorem SC (b:Int) (d:Int) (f:O) (_:ch (.cons (.int .i64) (.cons (.int .i64) (.one .str))) (b,d,f)):W fun n=>Bg n b d f b d f=some true:=by
 exact W.succ (W.of fun n=>by rw [axW];simp)
theorem azV (b:ae) (g:dp aK b):W fun n=>Iw n b b=some true:=by
 have hlen:b.length≤1048576:=g.1;have d:=kF (len:=b.length) hlen (L:=fun n m i=>Bf n m i b b) ?_ (fun n m=>by rw [RX];simp)
 ·refine W.succ (d.mono fun n h=> ?_)
  rw [axV];simp only [bne_self_eq_false,da,h,Z,ay]
 ·refine(W.all b fun x f=>SC x.1 x.2.1 x.2.2 (g.2 x f)).mono fun n h m i hi=> ?_
  have f:=h _ (List.getElem_mem hi);rw [RX,ez (by omega),bj hi]
  simp only [Y,Z,f,Bool.not_true,da]
theorem azW (g:Int) (h:O) (b:Int) (d:Int) (f:O) (i:ch (.cons (.int .i64) (.cons .str (.cons (.int .i64) (.cons (.int .i64) (.one .str))))) (g,h,b,d,f)):W fun n=>Iy n g h b d f g h b d f=some true:=by
 obtain⟨p,s1,s2,j,k⟩:=i;refine W.succ ((SC b d f (And.intro s2 (And.intro j k))).mono fun n m=> ?_)
 rw [axY];simp [m]
theorem azX (b:ai) (g:dp bN b):W fun n=>Ix n b b=some true:=by
 have hlen:b.length≤1048576:=g.1;have d:=kF (len:=b.length) hlen (L:=fun n m i=>Bh n m i b b) ?_ (fun n m=>by rw [RY];simp)
 ·refine W.succ (d.mono fun n h=> ?_)
  rw [axX];simp only [bne_self_eq_false,da,h,Z,ay]
 ·refine(W.all b fun x f=>azW x.1 x.2.1 x.2.2.1 x.2.2.2.1 x.2.2.2.2 (g.2 x f)).mono fun n h m i hi=> ?_
  have f:=h _ (List.getElem_mem hi);rw [RY,ez (by omega),bj hi]
  simp only [Y,Z,f,Bool.not_true,da]
theorem azY (b:ae) (d:ai) (f:Int) (g:Int) (h:ch (.cons aK (.cons bN (.cons (.int .i64) (.one (.int .i64))))) (b,d,f,g)):W fun n=>Iv n b d f g b d f g=some true:=by
 obtain⟨i,s1,s2,m⟩:=h;refine W.succ (((azV b i).and (azX d s1)).mono fun n ⟨j,k⟩=> ?_)
 rw [axU];simp [j,k]
theorem wz (b:ah) (f:dp bf b):W fun n=>qF n b b=some true:=by
 have hlen:b.length≤1048576:=f.1;have d:=kF (len:=b.length) hlen (L:=fun n m i=>Bi n m i b b) ?_ (fun n m=>by rw [RZ];simp)
 ·refine W.succ (d.mono fun n h=> ?_)
  rw [axZ];simp only [bne_self_eq_false,da,h,Z,ay]
 ·refine W.of fun n m i hi=> ?_
  rw [RZ,ez (by omega),bj hi]
  simp
theorem SD (b:ae) (d:ai) (f:Int) (g:Int) (h:ah) (i:O) (j:ch (.cons aK (.cons bN (.cons (.int .i64) (.cons (.int .i64) (.cons bf (.one .str)))))) (b,d,f,g,h,i)):W fun n=>Be n b d f g h i b d f g h i=some true:=by
 obtain⟨k,s1,s2,m,p,s⟩:=j;refine W.succ (((azY b d f g (And.intro k (And.intro s1 (And.intro s2 m)))).and (wz h p)).mono fun n ⟨q,r⟩=> ?_)
 rw [axT];simp [q,r]
theorem azZ (p:Int) (q:Int) (d:Int) (f:Int) (g:aY) (h:ae) (i:ai) (j:Int) (k:Int) (m:ah) (b:O) (s:ch (.cons (.int .i64) (.cons (.int .i64) (.cons (.int .i64) (.cons (.int .i64) (.cons cW (.cons aK (.cons bN (.cons (.int .i64) (.cons (.int .i64) (.cons bf (.one .str))))))))))) (p,q,d,f,g,h,i,j,k,m,b)):W fun n=>Is n p q d f g h i j k m b p q d f g h i j k m b=some true:=by
 obtain⟨s0,s1,s2,t,u,z,s6,s7,s8,s9,r⟩:=s;refine W.succ (((azU d f g (And.intro s2 (And.intro t u))).and (SD h i j k m b (And.intro z (And.intro s6 (And.intro s7 (And.intro s8 (And.intro s9 r))))))).mono fun n ⟨h0,h1⟩=> ?_)
 rw [axO];simp [h0,h1]
theorem aAa (b:cg) (f:dp hY b):W fun n=>Iz n b b=some true:=by
 have hlen:b.length≤1048576:=f.1;have d:=kF (len:=b.length) hlen (L:=fun n m i=>Bj n m i b b) ?_ (fun n m=>by rw [Sb];simp)
 ·refine W.succ (d.mono fun n h=> ?_)
  rw [ayA];simp only [bne_self_eq_false,da,h,Z,ay]
 ·refine W.of fun n m i hi=> ?_
  rw [Sb,ez (by omega),bj hi]
  simp
theorem aAb (b:bX) (f:dp eX b):W fun n=>IB n b b=some true:=by
 have hlen:b.length≤1048576:=f.1;have d:=kF (len:=b.length) hlen (L:=fun n m i=>Bk n m i b b) ?_ (fun n m=>by rw [Sc];simp)
 ·refine W.succ (d.mono fun n h=> ?_)
  rw [ayC];simp only [bne_self_eq_false,da,h,Z,ay]
 ·refine W.of fun n m i hi=> ?_
  rw [Sc,ez (by omega),bj hi]
  simp
theorem aAc (b:bX) (d:Int) (f:ch (.cons eX (.one (.int .i64))) (b,d)):W fun n=>IA n b d b d=some true:=by
 obtain⟨g,s1⟩:=f;refine W.succ ((aAb b g).mono fun n h=> ?_)
 rw [ayB];simp [h]
theorem aAd (d:Int) (f:Int) (g:Int) (h:Int) (i:Int) (j:Int) (k:Int) (b:aY) (m:Bool) (p:O) (q:ch (.cons (.int .i64) (.cons (.int .i64) (.cons (.int .i64) (.cons (.int .i64) (.cons (.int .i64) (.cons (.int .i64) (.cons (.int .i64) (.cons cW (.cons .bool (.one .str)))))))))) (d,f,g,h,i,j,k,b,m,p)):W fun n=>IC n d f g h i j k b m p d f g h i j k b m p=some true:=by
 obtain⟨t,s1,s2,u,z,s5,s6,r,s8,s9⟩:=q;refine W.succ ((SB b r).mono fun n s=> ?_)
 rw [ayE];simp [s]
theorem SE (b:bw) (g:dp eh b):W fun n=>Bm n b b=some true:=by
 have hlen:b.length≤1048576:=g.1;have d:=kF (len:=b.length) hlen (L:=fun n m i=>Bn n m i b b) ?_ (fun n m=>by rw [Sd];simp)
 ·refine W.succ (d.mono fun n h=> ?_)
  rw [ayD];simp only [bne_self_eq_false,da,h,Z,ay]
 ·refine(W.all b fun x f=>aAd x.1 x.2.1 x.2.2.1 x.2.2.2.1 x.2.2.2.2.1 x.2.2.2.2.2.1 x.2.2.2.2.2.2.1 x.2.2.2.2.2.2.2.1 x.2.2.2.2.2.2.2.2.1 x.2.2.2.2.2.2.2.2.2 (g.2 x f)).mono fun n h m i hi=> ?_
  have f:=h _ (List.getElem_mem hi);rw [Sd,ez (by omega),bj hi]
  simp only [Y,Z,f,Bool.not_true,da]
theorem aAe (x0:Int) (x1:Int) (x2:Int) (x3:Int) (x4:Int) (x5:aY) (x6:ae) (x7:ai) (x8:Int) (x9:Int) (b:ah) (d:O) (u:Int) (f:cg) (g:ah) (h:ah) (z:Int) (i:ae) (j:ai) (k:Int) (m:Int) (p:ah) (q:O) (r:bX) (s:Int) (t:bw) (hs:ch (.cons (.int .i64) (.cons (.int .i64) (.cons (.int .i64) (.cons (.int .i64) (.cons (.int .i64) (.cons cW (.cons aK (.cons bN (.cons (.int .i64) (.cons (.int .i64) (.cons bf (.cons .str (.cons (.int .i64) (.cons hY (.cons bf (.cons bf (.cons (.int .i64) (.cons aK (.cons bN (.cons (.int .i64) (.cons (.int .i64) (.cons bf (.cons .str (.cons eX (.cons (.int .i64) (.one eh)))))))))))))))))))))))))) (x0,x1,x2,x3,x4,x5,x6,x7,x8,x9,b,d,u,f,g,h,z,i,j,k,m,p,q,r,s,t)):W fun n=>Ir n x0 x1 x2 x3 x4 x5 x6 x7 x8 x9 b d u f g h z i j k m p q r s t x0 x1 x2 x3 x4 x5 x6 x7 x8 x9 b d u f g h z i j k m p q r s t=some true:=by
 obtain⟨s0,s1,s2,s3,s4,s5,s6,s7,s8,s9,av,aw,bx,ax,ay,az,bz,a1,a6,a7,a8,bd,bg,bh,bj,bk⟩:=hs;refine W.succ ((((((((azZ x1 x2 x3 x4 x5 x6 x7 x8 x9 b d (And.intro s1 (And.intro s2 (And.intro s3 (And.intro s4 (And.intro s5 (And.intro s6 (And.intro s7 (And.intro s8 (And.intro s9 (And.intro av aw))))))))))).and (aAa f ax)).and (wz g ay)).and (wz h az)).and (SD i j k m p q (And.intro a1 (And.intro a6 (And.intro a7 (And.intro a8 (And.intro bd bg))))))).and (aAc r s (And.intro bh bj))).and (SE t bk)).mono fun n ⟨⟨⟨⟨⟨⟨h0,h1⟩,h2⟩,h3⟩,h4⟩,h5⟩,h6⟩=> ?_)
 rw [axN];simp [h0,h1,h2,h3,h4,h5,h6]
theorem aAf (b:cu) (g:dp fy b):W fun n=>Iq n b b=some true:=by
 have hlen:b.length≤1048576:=g.1;have d:=kF (len:=b.length) hlen (L:=fun n m i=>AZ n m i b b) ?_ (fun n m=>by rw [RV];simp)
 ·refine W.succ (d.mono fun n h=> ?_)
  rw [axM];simp only [bne_self_eq_false,da,h,Z,ay]
 ·refine(W.all b fun x f=>aAe x.1 x.2.1 x.2.2.1 x.2.2.2.1 x.2.2.2.2.1 x.2.2.2.2.2.1 x.2.2.2.2.2.2.1 x.2.2.2.2.2.2.2.1 x.2.2.2.2.2.2.2.2.1 x.2.2.2.2.2.2.2.2.2.1 x.2.2.2.2.2.2.2.2.2.2.1 x.2.2.2.2.2.2.2.2.2.2.2.1 x.2.2.2.2.2.2.2.2.2.2.2.2.1 x.2.2.2.2.2.2.2.2.2.2.2.2.2.1 x.2.2.2.2.2.2.2.2.2.2.2.2.2.2.1 x.2.2.2.2.2.2.2.2.2.2.2.2.2.2.2.1 x.2.2.2.2.2.2.2.2.2.2.2.2.2.2.2.2.1 x.2.2.2.2.2.2.2.2.2.2.2.2.2.2.2.2.2.1 x.2.2.2.2.2.2.2.2.2.2.2.2.2.2.2.2.2.2.1 x.2.2.2.2.2.2.2.2.2.2.2.2.2.2.2.2.2.2.2.1 x.2.2.2.2.2.2.2.2.2.2.2.2.2.2.2.2.2.2.2.2.1 x.2.2.2.2.2.2.2.2.2.2.2.2.2.2.2.2.2.2.2.2.2.1 x.2.2.2.2.2.2.2.2.2.2.2.2.2.2.2.2.2.2.2.2.2.2.1 x.2.2.2.2.2.2.2.2.2.2.2.2.2.2.2.2.2.2.2.2.2.2.2.1 x.2.2.2.2.2.2.2.2.2.2.2.2.2.2.2.2.2.2.2.2.2.2.2.2.1 x.2.2.2.2.2.2.2.2.2.2.2.2.2.2.2.2.2.2.2.2.2.2.2.2.2 (g.2 x f)).mono fun n h m i hi=> ?_
  have f:=h _ (List.getElem_mem hi);rw [RV,ez (by omega),bj hi]
  simp only [Y,Z,f,Bool.not_true,da]
theorem aAg (b:Int) (d:O) (_:ch (.cons (.int .i64) (.one .str)) (b,d)):W fun n=>ID n b d b d=some true:=by
 exact W.succ (W.of fun n=>by rw [ayF];simp)
theorem aAh (b:ae) (g:dp aK b):W fun n=>IE n b b=some true:=by
 have hlen:b.length≤1048576:=g.1;have d:=kF (len:=b.length) hlen (L:=fun n m i=>Bo n m i b b) ?_ (fun n m=>by rw [Se];simp)
 ·refine W.succ (d.mono fun n h=> ?_)
  rw [ayG];simp only [bne_self_eq_false,da,h,Z,ay]
 ·refine(W.all b fun x f=>SA x.1 x.2.1 x.2.2 (g.2 x f)).mono fun n h m i hi=> ?_
  have f:=h _ (List.getElem_mem hi);rw [Se,ez (by omega),bj hi]
  simp only [Y,Z,f,Bool.not_true,da]
theorem aAi (f:af) (g:af) (h:ae) (i:ae) (r:Int) (j:cu) (k:bw) (m:Int) (p:O) (q:ah) (b:ah) (d:ae) (u:ch (.cons cD (.cons cD (.cons aK (.cons aK (.cons (.int .i64) (.cons fy (.cons eh (.cons (.int .i64) (.cons .str (.cons bf (.cons bf (.one aK)))))))))))) (f,g,h,i,r,j,k,m,p,q,b,d)):W fun n=>Im n f g h i r j k m p q b d f g h i r j k m p q b d=some true:=by
 obtain⟨z,s1,s2,s3,s4,s5,s6,s7,s8,s9,s,t⟩:=u;refine W.succ ((((((((azS f g h i (And.intro z (And.intro s1 (And.intro s2 s3)))).and (aAf j s5)).and (SE k s6)).and (aAg m p (And.intro s7 s8))).and (wz q s9)).and (wz b s)).and (aAh d t)).mono fun n ⟨⟨⟨⟨⟨⟨h0,h1⟩,h2⟩,h3⟩,h4⟩,h5⟩,h6⟩=> ?_)
 rw [axH];simp [h0,h1,h2,h3,h4,h5,h6]
end Go.Proofs.YtfpfjmahdneehaaGreatDoor
