/- A verified evaluator of the machine's code, part 5: no program in sight. -/
import Derived.Test.YtfpfjmahdneehaaGreatDoorEv4
import Derived.Laws.AppendOwn
import Derived.Lib.IndexMore
import Derived.Handed
import Derived.Shelf.Vars
import Derived.Sort.Grow
import Derived.Lib.SplitLaws
import Derived.Lib.SliceRun
import Derived.Deep.RegionLaw
import Derived.Laws.IdiomCopy
import Derived.Shelf.SlicesE.Clone
open Go.Value renaming string->À,int->Ô
open List renaming length_take->Á,length_append->Ã,append_assoc->Ç,take_left'->É,take_append_drop->Ë,take_of_length_le->Ì,drop_of_length_le->Í,append_nil->Ð,length_eq_zero_iff->Ñ,getElem?_take->Ò,size_toArray->Õ,length->Ö,map_nil->Ø,flatMap->Ù,drop_succ_cons->Û,getElem?_eq_getElem->Ü,nil_append->Ý,cons_append->á,length_drop->â,map_cons->ã,mem_cons->ä,isPrefixOf->å,nodup_nil->ç,take_take->è,getElem?_map->é,sum_replicate_nat->í,getElem?_eq_none->ï,replicate->ò,length_flatMap->ö,map_congr_left->ø,mem_singleton->û,set_cons_succ->ü,flatMap_cons->ý,ext_getElem?->þ,nodup_append->ÿ,mem_flatMap->Ā,length_cons->ā,map_const'->Ă,length_map->ă,drop_left'->Ą
open Nat renaming mul_le_mul_right->Â,le_refl->Å,le_of_ble_eq_true->Ê,min_eq_left->Ó,ble->Þ,eq_of_mul_eq_mul_right->æ,mul_one->ê,zero_add->ì,zero_le->ð,add_mul->ô,sub_mul->õ,sub_zero->ĉ,min->ď
open Go.Builtin renaming zeroCells->Ä,clear_->ą,copy_->ć,firstCells->Č,lenOf->Ď
open Array renaming length_toList->Æ,getElem?_eq_getElem->Ú,getElem?_toList->à,size_append->ë,getElem?_mapIdx->î,mem_toList_iff->ó,toList_append->ú
open Option.some renaming inj->È
open Go.Lib renaming index->Î,indexByte->Ć,index_ge->Ĉ,splitK->Ċ,countB->ċ
open Go.Sort renaming ahead->Ï
open Int renaming toNat_natCast->ß,toNat_of_nonneg->ù,toNat->č
open Go.IntKind renaming i64->ñ
namespace Go.Ev
open Go.WideShapes Go.RowKit
structure la where
 t:TypeId
 agg:Bool
 bA:List CT
def la.kv (p:la):bq:=match p.agg,p.bA with
 |false,[c]=>.one (lX c)
 |_,bA=>.agg (bA.map lX)
def la.sh (p:la) (v:Value):Prop:=match p.agg,p.bA with
 |false,[_]=>v.cells= #[v]
 |_,_=> ∃arr,v=.agg arr
theorem Pp: ∀ {a b:List bf},bf.fit.fits a->bf.fit.fits b->bf.fit.fits (a++b)
 | [],_,_,h=>h
 |d::a,b,h,k=>by
  simp only [á,bf.fit.fits]at h |-;exact⟨h.1,Pp h.2 k⟩
theorem Typed.app: ∀ {a b:List CT} {x y:List DV},Typed a x->Typed b y->Typed (a++b) (x++y)
 | [],_,_,_,h,k=>by
  simp only [Typed]at h;subst h;exact k
 |c::a,b,_,y,h,k=>by
  simp only [Typed]at h;obtain⟨x,r,rfl,h⟩:=h;simp only [á,Typed];exact⟨x,r++y,rfl,Typed.app h k⟩
section
variable {T:Type} {en:TypeId×Value→T} {P:Program} {w:World} {sp:Nat→Bool} {held:Bool} {S:List (TypeId×List CT)}
theorem aaU (r:oJ S P S=true) (p:la) (hm:iB S p.t p.bA=true) {v:Value} {d:DataW T} {s:List MemPlace} (g:p.sh v) (h:DataW.Trod en P w 0 sp held p.t v d s):
  ∃ds,Typed p.bA ds/\bf.fit.fits (ds.map fun d=>enc d.c d.x)/\ ∀nm,bX (hp w) (lW w) (eQ fun b=>b) true [] nm p.kv ds v []:=by
 obtain⟨fuel,u⟩:=h;obtain⟨ds,k,i⟩:=Eu r (fuel+1) p.t p.bA (Et hm) fuel _ _ (Nat.lt_succ_self _) u;refine⟨ds,k,au.fits i,fun nm=> ?_⟩
 have f: ∀arr,v=.agg arr->bX (hp w) (lW w) (eQ fun b=>b) true [] nm (.agg (p.bA.map lX)) ds v []:=by
  rintro arr rfl
  simp only [bX];exact⟨arr,rfl,Ew k i⟩
 obtain⟨t,agg,bA⟩:=p;cases agg with
 |true=>
  obtain⟨arr,e⟩:=(show ∃arr,v=.agg arr from g)
  exact f arr e
 |false=>
  match bA with
  | []=>
   obtain⟨arr,e⟩:=(show ∃arr,v=.agg arr from g)
   exact f arr e
  |c::c2::cs=>
   obtain⟨arr,e⟩:=(show ∃arr,v=.agg arr from g)
   exact f arr e
  | [c]=>
   have z:v.cells= #[v]:=g;rw [z]at i;have m:=Ew (B:=eQ fun b=>b) (nm:=nm) (j:=0) k i
   simp only [ã,Ø,bw]at m;obtain⟨v',ae,d1,d2,A1,A2,q,e2,e3,ho,hk,rfl,rfl,rfl⟩:=m;obtain⟨rfl, -⟩:=List.append_eq_nil_iff.1 e3.symm;rw [Ð]at q;subst q;obtain rfl:v=v':=by simpa using e2
   show bX (hp w) (lW w) (eQ fun b=>b) true [] nm (.one (lX c)) ds v []
   simp only [bX];exact⟨.inr ho,hk⟩
def qD:List la->List Value->Prop
 | [],[]=>True
 |p::l,v::vs=>p.sh v/\qD l vs
 |_,_=>False
theorem Pq (k:oJ S P S=true): ∀(l:List la),(l.all fun p=>iB S p.t p.bA)=true-> ∀(vs:List Value) (d:List (DataW T)) (m:List MemPlace),qD l vs->DataW.TrodAll en P w 0 sp held (l.map (·.t)) vs d m->
  ∃ds,Typed (l.flatMap (·.bA)) ds/\bf.fit.fits (ds.map fun d=>enc d.c d.x)/\ ∀(val:Nat->Value) (j:Nat),(∀i,val (j+i)=vs.getD i undef)->dQ (hp w) (lW w) (eQ fun b=>b) true val [] (gu j (l.map la.kv)) ds []
 | [],_,[],_,_,_,_=>⟨[],rfl,by simp [bf.fit.fits],fun val j _=>by simp [gu,dQ]⟩
 |p::l,hm,v::vs,d::g,m,f,h=>by
  simp only [List.all_cons,Bool.and_eq_true]at hm;obtain⟨p1,u,z,h2, -⟩:=h;obtain⟨q,a1,a2,a3⟩:=aaU k p hm.1 f.1 z;obtain⟨r,b1,b2,b3⟩:=Pq k l hm.2 vs g u f.2 h2;refine⟨q++r,by rw [ý];exact Typed.app a1 b1,by rw [List.map_append];exact Pp a2 b2,fun val j s=> ?_⟩
  simp only [ã,gu,dQ];have e0:val j=v:=by
   have:=s 0;simpa using this
  refine⟨q,r,[],[],rfl,rfl,by rw [e0];exact a3 _, ?_⟩
  rw [Ð];refine b3 val (j+1) fun i=> ?_
  have:=s (i+1);rw [show j+1+i=j+(i+1) by omega,this]
  simp
 |_::_,_,[],_,_,h,_=>absurd h (by simp [qD])
 |_::_,_,_::_,[],_,_,h=>absurd h (by simp [DataW.TrodAll])
 | [],_,_::_,_,_,h,_=>absurd h (by simp [qD])
theorem aaV (k:oJ S P S=true) {l:List la} (hm:(l.all fun p=>iB S p.t p.bA)=true) {args:Array Value} {d:List (DataW T)} {j:List MemPlace} (g:qD l args.toList) (h:DataW.TrodAll en P w 0 sp held (l.map (·.t)) args.toList d j):
  ∃ds,Typed (l.flatMap (·.bA)) ds/\bf.fit.fits (ds.map fun d=>enc d.c d.x)/\
   ∀(E:Entry) (gl:bF),E.ins=l.map la.kv->E.bx=[]->gl.n<=w.heap.size->(∀b,b<gl.n->hp w b=hp gl.w b)->
    qu gl E w (fun _=>False) (lW w) (fun b=>b) (fun i=>args.getD i undef) [] ds [] []:=by
 obtain⟨ds,m,q,r⟩:=Pq k l hm args.toList d j g h;refine⟨ds,m,q,fun E gl s f u z=>⟨?_, ?_, ?_, ?_,fun b f=>⟨f,fun h=>h⟩,⟨u,fun b f=>⟨fun h=>h,z b f⟩⟩⟩⟩
 .rw [f];simp [bT]
 .rw [s]
  refine r _ 0 fun i=> ?_
  rw [ì];simp [List.getD_eq_getElem?_getD,Array.getD_eq_getD_getElem?]
 .rw [f];simp [Env.fps]
 .rw [f];simp [Env.fps]
theorem aaW {gl:bF} {E:Entry} {args:Array Value} {ds:List DV} {r:bO E.bI} (s:cW P gl E ds r) (d:E.outs=.one .bool) (m:E.bx=[]) (p:E.back=none) (t:lO E.bI r=[⟨.bool,true⟩]) (g:args.size=E.ins.length)
  (q:qu gl E w (fun _=>False) (lW w) (fun b=>b) (fun i=>args.getD i undef) [] ds [] []):
  Calls P E.f args w fun e w'=>e=.returned (.bool true)/\Below w.heap.size w w':=by
 refine(s w (fun _=>False) (lW w) (fun b=>b) args [] ds [] [] rfl g q).mono fun e w' h=> ?_
 cases e with
 |panicked _=>exact h.elim
 |outgrown=>exact h.elim
 |returned u=>
  simp only [p]at h;obtain⟨z,h2,h3,h4,h5,d1,A1,d2,A2,j,k1,k2, -, -⟩:=h;refine⟨?_,h3,h4,h5,z,fun k hk=>h2 k hk (fun h=>h)⟩
  rw [m]at k2;simp only [dL,bT]at k2;obtain⟨rfl,rfl⟩:=k2;rw [d]at k1;simp only [bX,aq]at k1;obtain⟨-,x,hx,hu, -⟩:=k1;rw [t,Ð]at j;rw [hx]at j;simp only [List.cons.injEq,and_true]at j;have:x=true:=by
   injection j with _ e2
   exact e2.symm
  rw [hu,this]
end
end Go.Ev
namespace Go.Ev
open Go
open Go.RowKit (Below)
def Fl:CT->Bool
 |.sl _=>false
 |.tree _=>false
 |_=>true
def oS:aR->Bool
 |.one c=>Fl c
 |.cons c cs=>Fl c&&oS cs
def oT:bf->Bool
 |.l _ _=>false
 |_=>true
theorem Pr {c:CT} (h:Fl c=true) (x:Interp c):oT (enc c x)=true:=by
 cases c<;>first|rfl|cases h
theorem Fm: ∀ {ts:aR},oS ts=true-> ∀(x:bg ts),∀d∈bH ts x,oT d=true
 |.one c,h,x,d,hd=>by
  simp only [bH,û]at hd;subst hd;exact Pr h x
 |.cons c cs,h,x,d,hd=>by
  simp only [oS,Bool.and_eq_true]at h;simp only [bH,ä]at hd;rcases hd with rfl|hd
  .exact Pr h.1 x.1
  .exact Fm h.2 x.2 d hd
theorem aD.flat {H H':Heap} {R R':Nat->Prop} {own own':Bool} {d:bf} {v:Value} {fp:List Nat} (hd:oT d=true) (h:aD H R own d v fp):fp=[]/\aD H' R' own' d v []:=by
 cases d with
 |b x=>simp only [aD]at h |-;exact⟨h.2,h.1,trivial⟩
 |i k n=>simp only [aD]at h |-;exact⟨h.2.2,h.1,h.2.1,trivial⟩
 |s x=>simp only [aD]at h |-;exact⟨h.2.2,h.1,h.2.1,trivial⟩
 |l sz cs=>cases hd
theorem au.flat {H H':Heap} {R R':Nat->Prop} {own own':Bool}: ∀ {ds:List bf} {vs:List Value} {fp:List Nat},(∀d∈ds,oT d=true)->au H R own ds vs fp->fp=[]/\au H' R' own' ds vs []
 | [],vs,fp,_,h=>by simp only [au]at h |-;exact⟨h.2,h.1,trivial⟩
 |d::ds,vs,fp,f,h=>by
  simp only [au]at h |-;obtain⟨v,b,f1,f2,rfl,rfl,g,i⟩:=h;obtain⟨rfl,k1⟩:=aD.flat (H':=H') (R':=R') (own':=own') (f d (by simp)) g
  obtain⟨rfl,k2⟩:=au.flat (H':=H') (R':=R') (own':=own') (fun x j=>f x (by simp [j])) i
  exact⟨rfl,v,b,[],[],rfl,rfl,k1,k2⟩
theorem yS {v:Value} (h:Ev.cC v=true):v.oneCell'=true:=by cases v<;>first|rfl|cases h
theorem Fo {gl:bF} {E:Entry} {w:World} {F R:Nat->Prop} {bl:Nat->Nat} {args:Array Value} {dB dA:List DV} {AB AA:Env} {k1:CK} (b:E.ins=[.one k1]) (j:E.bx=[]) (g:args.size=E.ins.length)
  (h:qu gl E w F R bl (fun i=>args.getD i undef) dB dA AB AA): ∃a A1,args= #[a]/\dB=[]/\(∃nm,aq (hp w) R (eQ bl) true [] nm k1 dA a A1)/\AA=A1/\AB=[]:=by
 rw [b]at g;obtain⟨a,rfl⟩:=Ez g;have d:=h.kb;rw [j]at d;simp only [bT]at d;obtain⟨rfl,rfl⟩:=d;have f:=h.kt;rw [b]at f;simp only [gu,dQ,bX]at f;obtain⟨d1,d2,A1,A2,k,m,⟨-,p⟩,q,r⟩:=f;subst k m q r;exact⟨a,A1,rfl,rfl,⟨_,by rw [Ð];exact p⟩,by simp,rfl⟩
theorem Fp {P:Program} {gl:bF} {f:FuncId} {fn:Func} {ts:aR} {e:TypeId} (q:oS ts=true) (al: ∀x:Interp (.sl ts),eG [.sl ts] [⟨.sl ts,x⟩]=some x)
  (ao: ∀(b off n c:Nat) (news:List Value) (w:World),news.length=n*ts.size->n<=aC->(∀j u,news[j]? =some u->w.cell? ⟨b,off+j,none⟩=some u)->(∀u∈news,u.oneCell'=true)->
   Calls P f #[.slice (some ⟨b,off,none⟩) n c] w fun r w'=> ∃k,r=.returned k/\w'.ownsRow w.heap.size e ts.size k n news/\Below w.heap.size w w')
  (ar: ∀(a:Addr) (c:Nat) (w:World),Calls P f #[.slice (some a) 0 c] w fun r w'=> ∃k,r=.returned k/\w'.ownsRow w.heap.size e ts.size k 0 []/\Below w.heap.size w w')
  (av: ∀(n c:Nat) (w:World),Calls P f #[.slice none n c] w fun r w'=>r=.returned (.slice none 0 0)/\w'=w)
  (ds:List DV) (r:bO [.sl ts]) (h:gK (.sl ts) ds=some r):
  cW P gl {f:=f,fn:=fn,ins:=[.one (.sh (.sl ts))],bx:=[],outs:=.one (.own (.sl ts)),bP:=[],loops:=[],cQ:=[],bI:=[.sl ts],cg:=some (gK (.sl ts))} ds r:=by
 intro w F R bl args dB dA AB AA ag aw ax;obtain⟨a,A1,rfl,rfl,⟨nm,hk⟩,rfl,rfl⟩:=Fo (k1:=.sh (.sl ts)) rfl rfl aw ax;simp only [aq]at hk;obtain⟨x,rfl, -,i,rfl⟩:=hk;simp only [Ý]at ag;subst ag;have h':cond (Þ (Ö (α:=bg ts) x) aC) (some x) none=some r:=by
  unfold gK at h;rw [al x]at h;exact h
 cases hl:Þ (Ö (α:=bg ts) x) aC with
 |false=>rw [hl]at h';cases h'
 |true=>
  rw [hl]at h';have s:x=r:=È h';subst s;have hl:=Ê hl;have t:(Ù (bH ts) (x:List (bg ts))).length=Ö (α:=bg ts) x*ts.size:=by
   rw [ö,ø (g:=fun _=>ts.size) (fun x _=>uG ts x),Ă,í]
  have ay: ∀d∈Ù (bH ts) (x:List (bg ts)),oT d=true:=fun d hd=>by
   obtain⟨y, -,hy⟩:=Ā.1 hd;exact Fm q y d hy
  simp only [enc,aD]at i;obtain⟨ad,len,cap,rfl,h0,h1,h2,h3,i⟩:=i;have hlen:len=Ö (α:=bg ts) x:=æ h0 (h1.symm.trans t);have fin: ∀ {k:Value} {w':World} {news:List Value},w'.ownsRow w.heap.size e ts.size k len news->Below w.heap.size w w'->au (hp w') R true (Ù (bH ts) (x:List (bg ts))) news []->
    iz {f:=f,fn:=fn,ins:=[.one (.sh (.sl ts))],bx:=[],outs:=.one (.own (.sl ts)),bP:=[],loops:=[],cQ:=[],bI:=[.sl ts],cg:=some (gK (.sl ts))} w w' F R bl x k:=by
   intro k w' news ah m z;have mk: ∀fp:List Nat,aD (hp w') R true (enc (.sl ts) x) k fp->fp.Nodup->(∀b∈fp,w.heap.size<=b)->Ev.cC k=true->
     iz {f:=f,fn:=fn,ins:=[.one (.sh (.sl ts))],bx:=[],outs:=.one (.own (.sl ts)),bP:=[],loops:=[],cQ:=[],bI:=[.sl ts],cg:=some (gK (.sl ts))} w w' F R bl x k:=by
    intro fp s a6 p h1;refine⟨m.size,fun b p _=>m.block b p,m.os,m.tape,m.output,[⟨.sl ts,x⟩],[(fH 9000 0,k,fp)],[],[],rfl, ?_,by simp [dL,bT],by simpa [Env.fps]using a6,fun b a7=>.inr (p b (by simpa [Env.fps]using a7))⟩
    simp only [bX,aq];exact⟨.inr h1,x,fp,rfl,rfl,s,rfl⟩
   obtain⟨o1,o2⟩:=ah;rcases o2 with⟨rfl,a8⟩|⟨g,ai,cur,rfl,p,hg,hle,bf,bh,bj⟩
   .refine mk [] ?_ ç (by simp) rfl
    simp only [enc,aD];exact⟨none,0,0,rfl,h0,by rw [t,<-hlen,a8],Å _,by unfold maxLen;omega,.inl ⟨trivial,.inl ⟨rfl,trivial⟩⟩⟩
   .refine mk [g] ?_ (by simp) (by simpa using p) rfl
    simp only [enc,aD];exact⟨_,len,ai,rfl,h0,by rw [t,<-hlen],hle,bf,.inl ⟨trivial,.inr ⟨g,cur,e,(0,0),[],rfl,hg,bh,oE _ _,rfl,by rw [bj];exact z⟩⟩⟩
  rcases i with⟨hf, -⟩|⟨-, -,i⟩
  .cases hf
  have zero:Ù (bH ts) (x:List (bg ts))=[]->len=0:=fun e0=>by
   rw [e0,List.length_nil]at h1;rcases Nat.mul_eq_zero.1 h1.symm with h|h
   .exact h
   .omega
  cases ad with
  |none=>
   have e0:Ù (bH ts) (x:List (bg ts))=[]:=by
    rcases i with h|⟨g,off,cur,ty,frz,ha, -⟩
    .exact h
    .cases ha
   have hz:=zero e0;subst hz;refine(av 0 cap w).mono ?_
   rintro rr w' ⟨rfl,rfl⟩
   exact fin (World.ownsRow_nil w' _ e ts.size) (Below.refl _ _) (by rw [e0];simp [au])
  |some ad=>
   rcases i with e0|⟨g,off,cur,ty,frz,ha,bt,hg,bp,s⟩
   .have hz:=zero e0
    subst hz;refine(ar ad cap w).mono ?_
    rintro rr w' ⟨k,rfl,ho,p⟩
    exact fin ho p (by rw [e0];simp [au])
   .cases ha
    have hk:=au.length s;refine(ao g off len cap ((cur.toList.drop off).take (len*ts.size)) w (by rw [<-hk,h1]) (by omega) ?_ (fun u hu=>yS (au.cC s u hu))).mono ?_
    .intro j u hu
     rw [Ò]at hu
     split at hu
     .rw [List.getElem?_drop]at hu
      rw [cell_of_row w g (off+j) cur ty frz hg];simpa using hu
     .cases hu
    .rintro rr w' ⟨k,rfl,ho,p⟩
     exact fin ho p (au.flat ay s).2
end Go.Ev
namespace Go.Ev
open Go
theorem aaX {P:Program} {gl:bF} {f:FuncId} {fn:Func}
  (u: ∀(x y:Nat) (w:World),x<18446744073709551616->y<18446744073709551616->Calls P f #[.int .u64 x,.int .u64 y] w fun e w'=>e=.returned (.tuple #[.int .u64 ((x*y/18446744073709551616:Nat):Int),.int .u64 ((x*y%18446744073709551616:Nat):Int)])/\w'=w)
  (ds:List DV) (r:bO [.int .u64,.int .u64]) (h:primMul64 ds=some r):
  cW P gl {f:=f,fn:=fn,ins:=[.one (.int .u64),.one (.int .u64)],bx:=[],outs:=.aP [.one (.int .u64),.one (.int .u64)],bP:=[],loops:=[],cQ:=[],bI:=[.int .u64,.int .u64],cg:=some primMul64} ds r:=by
 intro w F R bl args dB dA AB AA d q s;obtain⟨a,b,d1,d2,A1,A2,rfl,z,⟨ad,i⟩,ae,j⟩:=uJ (k1:=.int .u64) (k2:=.int .u64) rfl rfl q s;rw [z]at d;subst d;simp only [aq]at i j;obtain⟨x,rfl,rfl,g, -⟩:=i;obtain⟨y,rfl,rfl,hy, -⟩:=j;have g:0<=(show Int from x)/\(show Int from x)<=18446744073709551615:=g;have hy:0<=(show Int from y)/\(show Int from y)<=18446744073709551615:=hy;obtain⟨m,hm⟩: ∃m:Nat,x=(show pQ .u64 from(m:Int)):=⟨(show Int from x).toNat,(ù g.1).symm⟩
 obtain⟨k,hk⟩: ∃k:Nat,y=(show pQ .u64 from(k:Int)):=⟨(show Int from y).toNat,(ù hy.1).symm⟩
 subst hm hk;have h':some (((m:Int)*(k:Int))/18446744073709551616,((m:Int)*(k:Int))%18446744073709551616)=some r:=h;have p:=(È h').symm;have hmul:(m:Int)*(k:Int)=((m*k:Nat):Int):=(Int.natCast_mul m k).symm;rw [hmul]at p;have g:0<=(m:Int)/\(m:Int)<=18446744073709551615:=g;have hy:0<=(k:Int)/\(k:Int)<=18446744073709551615:=hy;have t:m*k<340282366920938463463374607431768211456:=by
  have i:m<=18446744073709551615:=by omega
  have j:k<=18446744073709551615:=by omega
  have:=Nat.mul_le_mul i j;omega
 refine(u m k w (by omega) (by omega)).mono ?_
 rintro e w' ⟨rfl,rfl⟩
 refine rZ rfl ?_
 generalize m*k=c at t p
 have e1:((c:Nat):Int)/18446744073709551616=((c/18446744073709551616:Nat):Int):=by omega
 have e2:((c:Nat):Int)%18446744073709551616=((c%18446744073709551616:Nat):Int):=by omega
 rw [e1,e2]at p;subst p;simp only [bX,cu,aq];refine⟨_,rfl,_,_,[⟨.int .u64,((c/18446744073709551616:Nat):Int)⟩],[⟨.int .u64,((c%18446744073709551616:Nat):Int)⟩],[],[],rfl,rfl,rfl,.inr rfl,⟨((c/18446744073709551616:Nat):Int),rfl,rfl,⟨?_, ?_⟩,rfl⟩,_,_,[⟨.int .u64,((c%18446744073709551616:Nat):Int)⟩],[],[],[],rfl,rfl,rfl,.inr rfl,⟨((c%18446744073709551616:Nat):Int),rfl,rfl,⟨?_, ?_⟩,rfl⟩,rfl,rfl,rfl⟩
 .show(0:Int)<=((c/18446744073709551616:Nat):Int);omega
 .show((c/18446744073709551616:Nat):Int)<=18446744073709551615;omega
 .show(0:Int)<=((c%18446744073709551616:Nat):Int);omega
 .show((c%18446744073709551616:Nat):Int)<=18446744073709551615;omega
def bF.some64 (gl:bF) (g:Nat):Prop:=g<gl.n/\ ∃m,gl.w.cell? ⟨g,0,none⟩=some (.int .i64 m)
theorem bF.some64.at_ {gl:bF} {g:Nat} (h:gl.some64 g) {w:World} {F:Nat->Prop} (hw:oH gl w F): ∃m,w.cell? ⟨g,0,none⟩=some (.int .i64 m):=by
 obtain⟨b,m,d⟩:=h;exact⟨m,(World.cell?_of_block (a:=⟨g,0,none⟩) (hw.at_ g b).2).trans d⟩
theorem Fq (t:O): ∀s:O,cJ t s=Î s t
 | []=>by
  cases t<;>rfl
 |b::s=>by
  have ih:=Fq t s;have d:=Ĉ s t;unfold cJ Î;rw [ih];cases hp:å t (b::s)with
  |true=>rfl
  |false=>
   simp only [ez,Bool.false_eq_true,if_false,beq_iff_eq];by_cases h:Î s t= -1
   .rw [if_pos h,hL (by omega)];rfl
   .rw [if_neg h,hJ (by omega)];rfl
theorem index_le: ∀(s t:List UInt8),Î s t<=s.length
 | [],t=>by unfold Î;cases t<;>simp
 |b::s,t=>by
  have:=index_le s t;unfold Î;simp only [ā];split
  .omega
  .split<;>omega
theorem aaY {P:Program} {gl:bF} {f:FuncId} {fn:Func} {g:Nat} (z:gl.some64 g)
  (hc: ∀(s t:ByteArray) (m:Int) (w:World),s.size<4294967281->w.cell? ⟨g,0,none⟩=some (.int .i64 m)->Calls P f #[.string s,.string t] w fun e w'=>e=.returned (.int .i64 (Î s.data.toList t.data.toList))/\w'=w)
  (ds:List DV) (r:bO [.int .i64]) (h:yy ds=some r):
  cW P gl {f:=f,fn:=fn,ins:=[.one .str,.one .str],bx:=[],outs:=.one (.int .i64),bP:=[],loops:=[],cQ:=[],bI:=[.int .i64],cg:=some yy} ds r:=by
 intro w F R bl args dB dA AB AA d p i;obtain⟨a,b,d1,d2,A1,A2,rfl,e0,⟨af,q⟩,ag,u⟩:=uJ (k1:=.str) (k2:=.str) rfl rfl p i;rw [e0]at d;subst d;simp only [aq]at q u;obtain⟨x,rfl,rfl,hx, -⟩:=q;obtain⟨c,rfl,rfl,hb, -⟩:=u;have j:cond (Þ (Ö (α:=UInt8) x) 4000000000) (some (cJ (c:O) (x:O))) none=some r:=h;cases k:Þ (Ö (α:=UInt8) x) 4000000000 with
 |false=>rw [k]at j;cases j
 |true=>
  rw [k]at j;have hr:r=cJ (c:O) (x:O):=(È j).symm;subst hr;have k:=Ê k;obtain⟨m,hm⟩:=z.at_ i.gl;refine(hc ⟨(x:O).toArray⟩ ⟨(c:O).toArray⟩ m w (by show(x:O).toArray.size<4294967281;simp only [Õ];omega) hm).mono ?_
  rintro e w' ⟨rfl,rfl⟩
  refine rZ rfl ?_
  rw [Fq];have b1:=Ĉ (x:O) (c:O);have b2:=index_le (x:O) (c:O);simp only [bX,aq];refine⟨.inr rfl,_,rfl,rfl,⟨?_, ?_⟩,trivial⟩
  .show -9223372036854775808<=Î (x:O) (c:O);omega
  .show Î (x:O) (c:O)<=9223372036854775807;omega
theorem aaZ (s t:O) (r:Bool) (h:EC s t=some r):(∃c,t=[c]/\r=decide (0<=Ć s c))\/(s.length<=4000000000/\r=decide (0<=cJ t s)):=by
 have aC: ∀t:O,cond (Þ (Ö (α:=UInt8) s) 4000000000) (some (decide (0<=cJ t s))) none=some r->s.length<=4000000000/\r=decide (0<=cJ t s):=fun t h=>by
  cases d:Þ (Ö (α:=UInt8) s) 4000000000 with
  |false=>rw [d]at h;cases h
  |true=>
   rw [d]at h;exact⟨Ê d,(È h).symm⟩
 match t,h with
 | [c],h=>exact .inl ⟨c,rfl,(È h).symm⟩
 | [],h=>exact .inr (aC [] h)
 |a::b::t,h=>exact .inr (aC (a::b::t) h)
theorem abA {P:Program} {gl:bF} {f:FuncId} {fn:Func} {g:Nat} (hg:gl.some64 g)
  (j: ∀(s:ByteArray) (c:UInt8) (w:World),Calls P f #[.string s,.string ⟨#[c]⟩] w fun e w'=>e=.returned (.bool (decide (0<=Ć s.data.toList c)))/\w'=w)
  (hc: ∀(s t:ByteArray) (m:Int) (w:World),s.size<4294967281->w.cell? ⟨g,0,none⟩=some (.int .i64 m)->Calls P f #[.string s,.string t] w fun e w'=>e=.returned (.bool (Lib.contains s.data.toList t.data.toList))/\w'=w)
  (ds:List DV) (r:bO [.bool]) (h:yz ds=some r):
  cW P gl {f:=f,fn:=fn,ins:=[.one .str,.one .str],bx:=[],outs:=.one .bool,bP:=[],loops:=[],cQ:=[],bI:=[.bool],cg:=some yz} ds r:=by
 intro w F R bl args dB dA AB AA d k i;obtain⟨a,b,d1,d2,A1,A2,rfl,e0,⟨ag,u⟩,ah,z⟩:=uJ (k1:=.str) (k2:=.str) rfl rfl k i;rw [e0]at d;subst d;simp only [aq]at u z;obtain⟨x,rfl,rfl,hx, -⟩:=u;obtain⟨s,rfl,rfl,hb, -⟩:=z;have h':EC (x:O) (s:O)=some r:=h;rcases aaZ _ _ _ h' with⟨c,hs,p⟩|⟨hl,p⟩
 .subst p
  have q:s=[c]:=hs;subst q;refine(j ⟨(x:O).toArray⟩ c w).mono ?_
  rintro e w' ⟨rfl,rfl⟩
  refine rZ rfl ?_
  simp only [bX,aq];exact⟨.inr rfl,_,rfl,rfl,trivial⟩
 .subst p
  obtain⟨m,hm⟩:=hg.at_ i.gl;refine(hc ⟨(x:O).toArray⟩ ⟨(s:O).toArray⟩ m w (by show(x:O).toArray.size<4294967281;simp only [Õ];omega) hm).mono ?_
  rintro e w' ⟨rfl,rfl⟩
  refine rZ rfl ?_
  rw [Fq];simp only [bX,aq];exact⟨.inr rfl,_,rfl,rfl,trivial⟩
end Go.Ev
namespace Go
variable {H:Type} {enc:TypeId×Value→H}
theorem abB {a:Assume} {C:Checked} {os:Os} {f:FuncId} {fn:Func} {s:ChangeSpec} {conds:List PathCond} {apart fresh handsOn again:Bool} {X:World->Array Value->Prop}
  (hX: ∀(w w':World) (args:Array Value),w.heap=w'.heap->X w args->X w' args)
  (own:ownKnob C.prog.godebug=none) (started:os.Started) (g:C.prog.inits.idxOf? f=none) (q:C.prog.funcs[f]? =some fn)
  (witness: ∃(w:World) (tape:Tape) (i:Input),w.os=os/\(w.forCall tape i).Shaped C.prog/\i.vars=[]/\Input.okWide C.prog (w.forCall tape i) .any w.heap.size f i/\
   ((s.pre enc C.prog fn conds apart (w.forCall tape i).memory i.args/\X (w.forCall tape i).memory i.args)/\sizedMet enc C.prog fn (OpenSpec.ofChange s) apart (w.forCall tape i).memory i.args)/\a.holds C.prog (lone (Frame.enter C.prog f i.args .normal) [] (w.forCall tape i)))
  (d: ∀(b:World) (base:Nat) (args:Array Value) (ds gs:List (DataW H)) (before:List MemPlace),b.ShapedOpen C.prog->
   (∀(j:Nat) t v,fn.params[j]? =some t->args[j]? =some v->Value.okWide C.prog b .any base t v)->
   DataW.Whole enc C.prog fn.params.toList s.vars apart b args.toList ds gs before->
   conds.all (PathCond.test C.prog ⟨fn.params.toList,ds,s.plain.varTypes C.prog,gs⟩)=true->
   (DataW.weightsEach C.prog (fn.params.toList++s.plain.varTypes C.prog) (ds++gs)).all (·<=reachBytes)=true->X b args->
   a.holds C.prog (lone (Frame.enter C.prog f args .normal) [] b)->
   Calls C.prog f args b fun e W'=> ∃v,e=.returned v/\s.post enc C.prog fn apart fresh handsOn again b args v W'):
  ReturnsInHanded a C os f .any (fun w args=>(s.pre enc C.prog fn conds apart w args/\X w args)/\sizedMet enc C.prog fn (OpenSpec.ofChange s) apart w args) (s.post enc C.prog fn apart fresh handsOn again):=by
 refine returnsInHanded_of_calls own started g witness ?_
 intro w tape i _ r _ u k h;obtain⟨_,_,_,z,m,_,_,_,_,p⟩:=u;have e:z=fn:=È (m.symm.trans q);subst e;obtain⟨⟨⟨ds,gs,before,hw,hc⟩,hx⟩,hz⟩:=k;have ad:=DataW.Whole.of_heap (w':=w.forCall tape i) (by rfl) hw
 refine(d (w.forCall tape i) w.heap.size i.args ds gs before r p ad hc (hz.weights hw) (hX _ _ _ (by rfl) hx) h).mono fun e W' ⟨v,he,hp⟩=> ?_
 subst he;exact ChangeSpec.post_blind hp
end Go
namespace Go.Ev
open Go
theorem abC {P:Program} {g:Nat} {t:TypeId} {b:World} (h:b.ShapedOpen P) (d:g<P.globals.size) (f:((begin P (fun _ _=>0) default).world.heap[g]?).bind Obj.row? =some (#[.int .i64 0],t))
  (i:P.buildable t=true) (j:P.cellTypes P.depth t=some [t]) (hu:P.underlying t=some (.int .i64)):(bF.mk b.heap.size b).some64 g:=by
 obtain⟨m,hm⟩:=Go.Proofs.cell_of_shapedOpen_int h d f rfl i j hu;exact⟨World.block_lt_of_cell? b _ hm,m,hm⟩
theorem du.app {P:Program} {gl:bF} {l m:List Entry} (h:du P gl l) (k:du P gl m):du P gl (l++m):=⟨fun x b=>(List.mem_append.1 b).elim (h.ok x) (k.ok x)⟩
theorem du.all {P:Program} {gl:bF} {l:List Entry} (h:(l.all fun x=>x.cg.isNone)=true):du P gl l:=⟨fun x b p hp=>by
 have:=List.all_eq_true.1 h x b;rw [hp]at this;cases this⟩
end Go.Ev
namespace Go.Ev
open Go Go.Sort
theorem abD (w:World) (os:Array Obj) {b:Nat} (h:b<w.heap.size):hp (grow w os) b=hp w b:=by
 show(w.heap++os)[b]? =w.heap[b]?;rw [Array.getElem?_append_left h]
theorem uZ (w:World) (aO:Nat) (f:Array Value->Array Value) (b:Nat):hp (mapBlock w aO f) b=if aO=b then(hp w b).map (onCells f)else hp w b:=by
 show(w.heap.modify aO (onCells f))[b]? =_;rw [Array.getElem?_modify];rfl
theorem abE (b:List Int) (c:Array Value) (h:b.length<=c.size):(putCells (Ô .i64) 0 b.toArray c).toList.take b.length=b.map (Ô .i64)/\(putCells (Ô .i64) 0 b.toArray c).size=c.size:=by
 constructor
 .apply þ
  intro j;unfold putCells;rw [Ò,é]
  by_cases hj:j<b.length
  .rw [if_pos hj,à,î,Ú (by omega),Ü hj]
   simp only [Option.map_some];rw [if_pos ⟨ð _,by simp;omega⟩,ĉ,getElem!_pos b.toArray j (by simpa using hj)]
   simp
  .rw [if_neg hj,ï (by omega)];rfl
 .unfold putCells;simp
theorem Ps {H:Heap} {R:Nat->Prop} {own:Bool}: ∀ {l:List Int} {vs:List Value} {fp:List Nat},au H R own (l.map fun n=>bf.i .i64 n) vs fp->vs=l.map (Ô .i64)/\fp=[]/\ ∀n∈l,ñ.min<=n/\n<=ñ.max
 | [],vs,fp,h=>by
  simp only [Ø,au]at h;obtain⟨rfl,rfl⟩:=h;exact⟨rfl,rfl,by simp⟩
 |n::l,vs,fp,h=>by
  simp only [ã,au,aD]at h;obtain⟨v,b,f1,f2,rfl,rfl,⟨rfl,d,rfl⟩,f⟩:=h;obtain⟨rfl,rfl,g⟩:=Ps f;refine⟨rfl,rfl,fun m hm=> ?_⟩
  rcases ä.1 hm with rfl|hm
  .exact d
  .exact g m hm
theorem Pt {H:Heap} {R:Nat->Prop} {own:Bool}: ∀ {l:List Int},(∀n∈l,ñ.min<=n/\n<=ñ.max)->au H R own (l.map fun n=>bf.i .i64 n) (l.map (Ô .i64)) []
 | [],_=>by simp only [Ø,au];exact⟨trivial,trivial⟩
 |n::l,h=>by
  simp only [ã,au,aD];exact⟨_,_,[],[],rfl,rfl,⟨rfl,h n (by simp),rfl⟩,Pt fun m hm=>h m (by simp [hm])⟩
theorem Pu {α β:Type} (g:α->β) (l:List α):l.flatMap (fun n=>[g n])=l.map g:=by
 induction l with
 |nil=>rfl
 |cons a l ih=>rw [ý,ih];rfl
theorem Pv (x:List Int):enc (.sl (.one (.int .i64))) x=.l 1 (x.map fun n=>bf.i .i64 n):=by
 show bf.l 1 (Ù (fun n=>[bf.i .i64 n]) x)=_
 rw [Pu]
theorem abF {P:Program} {gl:bF} {f:FuncId} {fn:Func}
  (hc: ∀(aO cap:Nat) (zs:List Int) (w:World),Holds (Ô .i64) w aO 0 zs.toArray->aO<w.heap.size->zs.length<4611686018427387904->
   Calls P f #[.slice (some ⟨aO,0,none⟩) zs.length cap] w fun e w'=>e=.returned (.tuple #[])/\ ∃n os,w'=grow (putRow (Ô .i64) (Ï w n) aO 0 (zs.mergeSort fun x y=>decide (x<=y)).toArray) os)
  (av: ∀(p:Option Addr) (cap:Nat) (w:World),Calls P f #[.slice p 0 cap] w fun e w'=>e=.returned (.tuple #[])/\w'=w)
  (ds:List DV) (r:bO [.sl (.one (.int .i64))]) (h:uM ds=some r):
  cW P gl {f:=f,fn:=fn,ins:=[.one (.own (.sl (.one (.int .i64))))],bx:=[],outs:=.one (.own (.sl (.one (.int .i64)))),bP:=[],loops:=[],cQ:=[],bI:=[.sl (.one (.int .i64))],cg:=some uM,back:=some 0} ds r:=by
 intro w F R bl args dB dA AB AA u q s;obtain⟨a,A1,rfl,rfl,⟨nm,hk⟩,rfl,rfl⟩:=Fo (k1:=.own (.sl (.one (.int .i64)))) rfl rfl q s;simp only [aq]at hk;obtain⟨x,fp,rfl, -,d,rfl⟩:=hk;simp only [Ý]at u;subst u;obtain⟨x,hx⟩: ∃y:List Int,y=x:=⟨x,rfl⟩
 subst hx;have z:cond (Þ x.length aC) (some (jJ x)) none=some r:=h;cases hl:Þ x.length aC with
 |false=>rw [hl]at z;cases z
 |true=>
  rw [hl]at z;have hr:r=jJ x:=(È z).symm;subst hr;have hl:=Ê hl;have af:=s.own;have hg:=s.gl;clear s h z q;rw [Pv]at d;simp only [aD]at d;obtain⟨ad,len,cap,rfl,h0,h1,h2,h3,d⟩:=d;have hlen:x.length=len:=by simpa using h1
  have fin: ∀ {w':World} {fp':List Nat},w.heap.size<=w'.heap.size->(∀b,b<w.heap.size-> ¬F b->hp w' b=hp w b)->w'.os=w.os->w'.tape=w.tape->w'.output=w.output->
    aD (hp w') R true (.l 1 ((jJ x).map fun n=>bf.i .i64 n)) (.slice ad len cap) fp'->fp'.Nodup->(∀b∈fp',F b)->
    iz {f:=f,fn:=fn,ins:=[.one (.own (.sl (.one (.int .i64))))],bx:=[],outs:=.one (.own (.sl (.one (.int .i64)))),bP:=[],loops:=[],cQ:=[],bI:=[.sl (.one (.int .i64))],cg:=some uM,back:=some 0} w w' F R bl (jJ x) (.slice ad len cap):=by
   intro w' fp' k1 k2 k3 k4 k5 k6 k7 k8;refine⟨k1,k2,k3,k4,k5,[⟨.sl (.one (.int .i64)),jJ x⟩],[(fH 9000 0,.slice ad len cap,fp')],[],[],rfl, ?_,by simp [dL,bT],by simpa [Env.fps]using k7,fun b t=>.inl (k8 b (by simpa [Env.fps]using t))⟩
   simp only [bX,aq];exact⟨.inr rfl,_,fp',rfl,rfl,by rw [Pv];exact k6,rfl⟩
  rcases d with⟨-,⟨rfl,rfl⟩|⟨g,cur,ty,frz,fps,rfl,k,q,hz,rfl,aw⟩⟩|⟨hf, -⟩
  .have ax:len=0:=by omega
   subst ax;have ay:x=[]:=Ñ.1 hlen;subst ay;refine(av ad 0 w).mono ?_
   rintro e w' ⟨rfl,rfl⟩
   refine⟨rfl,fin (Å _) (fun _ _ _=>rfl) rfl rfl rfl ?_ ç (by simp)⟩
   simp only [jJ,List.mergeSort_nil,Ø,aD];exact⟨ad,0,0,rfl,by omega,rfl,Å _,h3,.inl ⟨trivial,.inl ⟨rfl,trivial⟩⟩⟩
  .obtain⟨hv,rfl,t⟩:=Ps aw
   rw [ê]at hv q;have ah:F g:=af g (by simp [Env.fps])
   have ai:g<w.heap.size:=ox k;have az: ∀j,j<x.length->cur[j]? =some (.int .i64 x[j]!):=fun j hj=>by
    have:=congrArg (fun l=>l[j]?) hv
    simp only [Ò,é]at this
    rw [if_pos (by omega),Ü hj]at this
    rw [getElem!_pos x j hj,<-à]
    simpa using this
   have hH:Holds (Ô .i64) w g 0 x.toArray:=fun j hj=>by
    have hj:j<x.length:=by simpa using hj
    rw [ì];refine⟨?_,xP k hz.1 (by omega)⟩
    rw [cell_of_row w g j cur ty frz k,az j hj];congr 2
    rw [getElem!_pos x j hj,getElem!_pos x.toArray j (by simpa using hj)];simp
   have aj:=hc g cap x w hH ai (by unfold aC at hl;omega)
   rw [hlen]at aj;refine aj.mono ?_
   rintro e w' ⟨rfl,n,os,rfl⟩
   have ak:(putRow (Ô .i64) (Ï w n) g 0 (x.mergeSort fun x y=>decide (x<=y)).toArray).heap.size=w.heap.size:=by unfold putRow mapBlock;simp [Ï]
   have al: ∀b,b<w.heap.size->hp (grow (putRow (Ô .i64) (Ï w n) g 0 (x.mergeSort fun x y=>decide (x<=y)).toArray) os) b=if g=b then(hp w b).map (onCells (putCells (Ô .i64) 0 (x.mergeSort fun x y=>decide (x<=y)).toArray))else hp w b:=fun b t=>by
    rw [abD _ _ (by rw [ak];exact t)]
    exact uZ _ _ _ _
   refine⟨rfl,fin (by rw [size_grow,ak];omega) (fun b t hF=> ?_) rfl rfl rfl (fp':=[g]) ?_ (by simp) (by simpa using ah)⟩
   .rw [al b t,if_neg (show ¬g=b from fun e=>hF (e▸ah))]
   .have ao:=al g ai
    rw [if_pos rfl,k]at ao;have ar:(x.mergeSort fun x y=>decide (x<=y)).length=len:=by rw [List.length_mergeSort,hlen]
    obtain⟨q1,q2⟩:=abE (x.mergeSort fun x y=>decide (x<=y)) cur (by omega)
    simp only [aD];refine⟨_,len,cap,rfl,h0,by rw [ă,jJ,ar,ê],h2,h3,.inl ⟨trivial,.inr ⟨g,_,ty,frz,[],rfl,ao,by rw [q2,q,ê],by rw [q2];exact hz,rfl, ?_⟩⟩⟩
    rw [ê,<-ar,q1];exact Pt fun m hm=>t m ((List.mergeSort_perm x _).mem_iff.1 hm)
  .cases hf
end Go.Ev
namespace Go.Ev
open Go Go.RowKit
theorem Pw (c:UInt8): ∀s:O,(Î s [c]= -1/\c∉s)\/ ∃a rest,s=a++c::rest/\c∉a/\Î s [c]=a.length
 | []=>.inl ⟨rfl,by simp⟩
 |b::s=>by
  by_cases h:c=b
  .subst h
   exact .inr ⟨[],s,rfl,by simp,by unfold Î;simp [å]⟩
  .have hp:å [c] (b::s)=false:=by simp [å,h]
   rcases Pw c s with⟨e,d⟩|⟨a,rest,rfl,d,e⟩
   .left
    refine⟨?_,by simp [h,d]⟩
    unfold Î;rw [hp,e];rfl
   .right
    refine⟨b::a,rest,rfl,by simp [h,d], ?_⟩
    unfold Î;rw [hp,e];simp only [Bool.false_eq_true,if_false,ā];rw [if_neg (by simp<;>omega)];omega
theorem Fs: ∀(s cur:O),32∉s->aQ cur s=[cur++s].filter fun t=> !(t.isEmpty)
 | [],cur,_=>by
  cases cur<;>simp [aQ]
 |b::s,cur,h=>by
  have d:(b==32)=false:=by
   simp only [ä,not_or]at h;simpa using fun e=>h.1 e.symm
  rw [aQ,d,ez,Fs s (cur++[b]) (by simp at h;exact h.2),Ç];rfl
theorem Px: ∀(a cur rest:O),32∉a->aQ cur (a++32::rest)=([cur++a].filter fun t=> !(t.isEmpty))++aQ [] rest
 | [],cur,rest,_=>by
  cases cur<;>simp [aQ]
 |b::a,cur,rest,h=>by
  have d:(b==32)=false:=by
   simp only [ä,not_or]at h;simpa using fun e=>h.1 e.symm
  rw [á,aQ,d,ez,Px a (cur++[b]) rest (by simp at h;exact h.2),Ç];rfl
theorem Py: ∀(k:Nat) (s:O),s.count 32<=k->(Ċ [32] 0 k s).filter (fun t=> !(t.isEmpty))=aQ [] s
 |0,s,h=>by
  have b:(32:UInt8)∉s:=fun hm=>by have:=List.count_pos_iff.2 hm;omega
  rw [Fs s [] b];rfl
 |k+1,s,h=>by
  unfold Ċ;rcases Pw 32 s with⟨e,b⟩|⟨a,rest,rfl,b,e⟩
  .rw [e,if_pos (show ((-1:Int)== -1)=true from rfl),Fs s [] b];rfl
  .rw [e,if_neg (by simp<;>omega),Px a [] rest b,List.filter_cons]
   have d:(a++32::rest).take (č (a.length:Int)+0)=a:=by simp
   have f:(a++32::rest).drop (č (a.length:Int)+([32]:O).length)=rest:=by
    rw [ß,show([32]:O).length=1 from rfl,<-List.drop_drop];simp
   have g:rest.count 32<=k:=by rw [List.count_append,List.count_cons_self]at h;omega
   rw [d,f,Py k rest g];cases a<;>simp
theorem yT: ∀(s cur t:O),t∈aQ cur s->t.length<=cur.length+s.length
 | [],cur,t,h=>by
  cases cur
  .simp [aQ]at h
  .simp [aQ]at h;subst h;simp
 |b::s,cur,t,h=>by
  rw [aQ]at h;cases d:b==32 with
  |true=>
   rw [d,Y]at h;cases cur with
   |nil=>
    have:=yT s [] t h;simp at this |-;omega
   |cons c cur=>
    rcases ä.1 h with rfl|h
    .simp<;>omega
    .have:=yT s [] t h
     simp at this |-;omega
  |false=>
   rw [d,ez]at h;have:=yT s (cur++[b]) t h;simp at this |-;omega
theorem Pz {H:Heap} {R:Nat->Prop} {own:Bool}: ∀ {l:List O},(∀t∈l,t.length<=maxLen)->au H R own (l.map fun t=>bf.s t) (l.map fun t=>À ⟨t.toArray⟩) []
 | [],_=>by simp only [Ø,au];exact⟨trivial,trivial⟩
 |t::l,h=>by
  simp only [ã,au,aD];exact⟨_,_,[],[],rfl,rfl,⟨rfl,h t (by simp),rfl⟩,Pz fun m hm=>h m (by simp [hm])⟩
theorem abG {P:Program} {gl:bF} {f:FuncId} {fn:Func} {g:Nat} {e:TypeId} (hg:gl.some64 g)
  (hc: ∀(s:ByteArray) (m:Int) (w:World),s.size<4294967281->w.cell? ⟨g,0,none⟩=some (.int .i64 m)->Calls P f #[.string s] w fun r w'=> ∃j,r=.returned j/\w'.ownsRow w.heap.size e 1 j (aQ [] s.data.toList).length ((aQ [] s.data.toList).map fun t=>À ⟨t.toArray⟩)/\Below w.heap.size w w')
  (ds:List DV) (r:bO [.sl (.one .str)]) (h:uL ds=some r):
  cW P gl {f:=f,fn:=fn,ins:=[.one .str],bx:=[],outs:=.one (.own (.sl (.one .str))),bP:=[],loops:=[],cQ:=[],bI:=[.sl (.one .str)],cg:=some uL} ds r:=by
 intro w F R bl args dB dA AB AA k ag p;obtain⟨a,A1,rfl,rfl,⟨nm,hk⟩,rfl,rfl⟩:=Fo (k1:=.str) rfl rfl ag p;simp only [aq]at hk;obtain⟨x,rfl,rfl,hx,rfl⟩:=hk;simp only [Ý]at k;subst k;obtain⟨x,ah⟩: ∃y:O,y=x:=⟨x,rfl⟩
 subst ah;have h':cond (Þ x.length 4000000000) (some (aQ [] x)) none=some r:=h;cases hl:Þ x.length 4000000000 with
 |false=>rw [hl]at h';cases h'
 |true=>
  rw [hl]at h';have hr:r=aQ [] x:=(È h').symm;subst hr;have hl:=Ê hl;obtain⟨m,hm⟩:=hg.at_ p.gl;refine(hc ⟨x.toArray⟩ m w (by show x.toArray.size<4294967281;simp only [Õ];omega) hm).mono ?_
  rintro rr w' ⟨j,rfl,i,d⟩
  have hw:(⟨x.toArray⟩:ByteArray).data.toList=x:=rfl;rw [hw]at i;have q:enc (.sl (.one .str)) (aQ [] x)=.l 1 ((aQ [] x).map fun t=>bf.s t):=by
   show bf.l 1 (Ù (fun t=>[bf.s t]) (aQ [] x))=_
   rw [Pu]
  have u: ∀H:Heap,au H R true ((aQ [] x).map fun t=>bf.s t) ((aQ [] x).map fun t=>À ⟨t.toArray⟩) []:=fun H=>Pz fun t ht=>by
   have:=yT x [] t ht;unfold maxLen at hx |-;simp at this;omega
  have fin: ∀fp':List Nat,aD (hp w') R true (.l 1 ((aQ [] x).map fun t=>bf.s t)) j fp'->fp'.Nodup->(∀b∈fp',w.heap.size<=b)->Ev.cC j=true->
    iz {f:=f,fn:=fn,ins:=[.one .str],bx:=[],outs:=.one (.own (.sl (.one .str))),bP:=[],loops:=[],cQ:=[],bI:=[.sl (.one .str)],cg:=some uL} w w' F R bl (aQ [] x) j:=by
   intro fp' k6 k7 k8 k9;refine⟨d.size,fun b z _=>d.block b z,d.os,d.tape,d.output,[⟨.sl (.one .str),aQ [] x⟩],[(fH 9000 0,j,fp')],[],[],rfl, ?_,by simp [dL,bT],by simpa [Env.fps]using k7,fun b z=>.inr (k8 b (by simpa [Env.fps]using z))⟩
   simp only [bX,aq];exact⟨.inr k9,_,fp',rfl,rfl,by rw [q];exact k6,rfl⟩
  obtain⟨o1,o2⟩:=i;rcases o2 with⟨rfl,ai⟩|⟨g',ad,cur,rfl,z,aj,hle,ak,al,ao⟩
  .have hz:aQ [] x=[]:=Ñ.1 ai
   refine fin [] ?_ ç (by simp) rfl
   rw [hz];simp only [Ø,aD];exact⟨none,0,0,rfl,by omega,rfl,Å _,by unfold maxLen;omega,.inl ⟨trivial,.inl ⟨rfl,trivial⟩⟩⟩
  .refine fin [g'] ?_ (by simp) (by simpa using z) rfl
   simp only [aD];exact⟨_,_,ad,rfl,by omega,by simp,hle,ak,.inl ⟨trivial,.inr ⟨g',cur,e,(0,0),[],rfl,aj,al,oE _ _,rfl,by rw [ao];exact u _⟩⟩⟩
open Go.Sort in
theorem abH (w:World) (d:List ByteArray) (e:TypeId):Holds À (w.alloc (.cells (d.map À).toArray e)) w.heap.size 0 d.toArray:=fun j hj=>by
 have hj:j<d.length:=by simpa using hj
 have b:(w.alloc (.cells (d.map À).toArray e)).heap[w.heap.size]? =some (.cells (d.map À).toArray e (0,0)):=heap_alloc_new w _;rw [ì];refine⟨?_,frozen_of_row _ _ _ _ _ b⟩
 rw [cell_of_row _ _ j _ e (0,0) b,getElem!_pos d.toArray j (by simpa using hj)]
 simp [hj]
open Go.Sort in
theorem abI {α:Type} [Inhabited α] (f:α->Value) (b:List α) (c:Array Value) (h:b.length<=c.size):(putCells f 0 b.toArray c).toList.take b.length=b.map f/\(putCells f 0 b.toArray c).size=c.size:=by
 constructor
 .apply þ
  intro j;unfold putCells;rw [Ò,é]
  by_cases hj:j<b.length
  .rw [if_pos hj,à,î,Ú (by omega),Ü hj]
   simp only [Option.map_some];rw [if_pos ⟨ð _,by simp;omega⟩,ĉ,getElem!_pos b.toArray j (by simpa using hj)]
   simp
  .rw [if_neg hj,ï (by omega)];rfl
 .unfold putCells;simp
open Go.Sort in
theorem abJ (w:World) (d:List ByteArray) (e:TypeId) (s:ByteArray) (q k:Nat) (hd:d=Lib.splitB ⟨#[32]⟩ 0 (ċ s ⟨#[32]⟩) s) (hk:k=d.length) (hm:d.length<=maxLen):
  (putRow À (Ï (w.alloc (.cells (d.map À).toArray e)) q) w.heap.size 0 ((d.filter fun t=> !(t.data.toList.isEmpty))++ò (d.length-(d.filter fun t=> !(t.data.toList.isEmpty)).length) (⟨#[]⟩:ByteArray)).toArray).ownsRow w.heap.size e 1 (.slice (some ⟨w.heap.size,0,none⟩) (d.filter fun t=> !(t.data.toList.isEmpty)).length k) (aQ [] s.data.toList).length ((aQ [] s.data.toList).map fun t=>À ⟨t.toArray⟩)/\
   Below w.heap.size w (putRow À (Ï (w.alloc (.cells (d.map À).toArray e)) q) w.heap.size 0 ((d.filter fun t=> !(t.data.toList.isEmpty))++ò (d.length-(d.filter fun t=> !(t.data.toList.isEmpty)).length) (⟨#[]⟩:ByteArray)).toArray):=by
 have hw:(d.filter fun t=> !(t.data.toList.isEmpty)).map (·.data.toList)=aQ [] s.data.toList:=by
  rw [<-Py (ċ s ⟨#[32]⟩) s.data.toList (by rw [<-Lib.count_one];exact Å _),<-Lib.splitB_data ⟨#[32]⟩ 0 _ s,<-hd,List.filter_map]
  rfl
 have hlen:(d.filter fun t=> !(t.data.toList.isEmpty)).length=(aQ [] s.data.toList).length:=by rw [<-hw,ă]
 have hle:(d.filter fun t=> !(t.data.toList.isEmpty)).length<=d.length:=List.length_filter_le _ _
 have g:(aQ [] s.data.toList).map (fun t=>À ⟨t.toArray⟩)=(d.filter fun t=> !(t.data.toList.isEmpty)).map À:=by
  rw [<-hw,List.map_map];rfl
 rw [g,<-hlen];generalize d.filter (fun t=> !(t.data.toList.isEmpty))=l at hle
 obtain⟨z,h⟩: ∃z,z=l++ò (d.length-l.length) (⟨#[]⟩:ByteArray):=⟨_,rfl⟩
 have i:z.length=d.length:=by rw [h];simp;omega
 rw [<-h];obtain⟨q1,q2⟩:=abI À z (d.map À).toArray (by simp [i])
 have p:(putRow À (Ï (w.alloc (.cells (d.map À).toArray e)) q) w.heap.size 0 z.toArray).heap[w.heap.size]? =some (.cells (putCells À 0 z.toArray (d.map À).toArray) e (0,0)):=by
  have f:=uZ (Ï (w.alloc (.cells (d.map À).toArray e)) q) w.heap.size (putCells À 0 z.toArray) w.heap.size;rw [if_pos rfl]at f;have r:hp (Ï (w.alloc (.cells (d.map À).toArray e)) q) w.heap.size=some (.cells (d.map À).toArray e (0,0)):=heap_alloc_new w _;rw [r]at f;exact f
 have j:(putRow À (Ï (w.alloc (.cells (d.map À).toArray e)) q) w.heap.size 0 z.toArray).heap.size=w.heap.size+1:=by
  unfold putRow mapBlock Ï World.alloc;simp
 refine⟨⟨by simp,.inr ⟨w.heap.size,k,_,rfl,Å _,p,by omega,by omega,by rw [q2];simp [hk], ?_⟩⟩,⟨rfl,rfl,rfl,by rw [j];omega,fun b u=> ?_⟩⟩
 .rw [ê]
  have:l.length<=z.length:=by omega
  have m:=congrArg (List.take l.length) q1;rw [è,Ó this,<-List.map_take]at m;rw [m,h,É];rfl
 .have f:=uZ (Ï (w.alloc (.cells (d.map À).toArray e)) q) w.heap.size (putCells À 0 z.toArray) b
  rw [if_neg (by omega)]at f
  exact f.trans (heap_alloc_old w _ u)
end Go.Ev
namespace Go.Ev
open Go Go.Sort
theorem take_set {α:Type}: ∀(l:List α) (o:Nat) (v:α),o<l.length->(l.set o v).take (o+1)=l.take o++[v]
 | [],o,v,h=>by simp at h
 |a::l,0,v,_=>rfl
 |a::l,o+1,v,h=>by
  simp only [ü,List.take_succ_cons,á];rw [take_set l o v (by simpa using h)]
theorem drop_set {α:Type}: ∀(l:List α) (o k:Nat) (v:α),(l.set o v).drop (o+1+k)=l.drop (o+1+k)
 | [],o,k,v=>by simp
 |a::l,0,k,v=>by rw [List.set_cons_zero,show 0+1+k=k+1 by omega,Û,Û]
 |a::l,o+1,k,v=>by
  rw [ü,show o+1+1+k=(o+1+k)+1 by omega,Û,Û]
  exact drop_set l o k v
structure yU (b o:Nat) (vs:List Value) (cur:Array Value) (ty:TypeId) (frz:Nat×Nat) (w w':World):Prop where
 row: ∃kf,hp w' b=some (.cells kf ty frz)/\kf.size=cur.size/\kf.toList=cur.toList.take o++(vs++cur.toList.drop (o+vs.length))
 other: ∀x,x≠b->hp w' x=hp w x
 size:w'.heap.size=w.heap.size
 os:w'.os=w.os
 tape:w'.tape=w.tape
 out:w'.output=w.output
theorem setAt (b:Nat) (ty:TypeId) (frz:Nat×Nat): ∀(vs:List Value) (o:Nat) (cur:Array Value) (w:World),hp w b=some (.cells cur ty frz)->o+vs.length<=cur.size->yU b o vs cur ty frz w (w.setCells b o vs)
 | [],o,cur,w,h,d=>⟨⟨cur,h,rfl,by simp⟩,fun _ _=>rfl,rfl,rfl,rfl,rfl⟩
 |v::vs,o,cur,w,h,d=>by
  have d:o+(vs.length+1)<=cur.size:=d;have e:w.setCell ⟨b,o,none⟩ v=mapBlock w b (·.setIfInBounds o v):=setCell_eq w b o v
  have g:hp (w.setCell ⟨b,o,none⟩ v) b=some (.cells (cur.setIfInBounds o v) ty frz):=by
   rw [e];have:=uZ w b (·.setIfInBounds o v) b
   rw [if_pos rfl,h]at this;exact this
  have ih:=setAt b ty frz vs (o+1) (cur.setIfInBounds o v) (w.setCell ⟨b,o,none⟩ v) g (by simp;omega)
  obtain⟨kf,k1,k2,k3⟩:=ih.row;refine⟨⟨kf,k1,by rw [k2];simp, ?_⟩,fun x f=> ?_, ?_,ih.os.trans rfl,ih.tape.trans rfl,ih.out.trans rfl⟩
  .rw [k3,Array.toList_setIfInBounds,take_set _ _ _ (by simp;omega),drop_set,Ç]
   simp [Nat.add_assoc,Nat.add_comm 1]
  .rw [show w.setCells b o (v::vs)=(w.setCell ⟨b,o,none⟩ v).setCells b (o+1) vs from rfl,ih.other x f,e]
   have:=uZ w b (·.setIfInBounds o v) x
   rw [if_neg (fun e=>f e.symm)]at this
   exact this
  .rw [show w.setCells b o (v::vs)=(w.setCell ⟨b,o,none⟩ v).setCells b (o+1) vs from rfl,ih.size,e]
   unfold mapBlock;simp
theorem yU.trans {b o i:Nat} {vs f:List Value} {cur kf:Array Value} {ty:TypeId} {frz:Nat×Nat} {w w' d:World} (h:yU b o vs cur ty frz w w') (k:yU b i f kf ty frz w' d):(∀x,x≠b->hp d x=hp w x)/\d.heap.size=w.heap.size/\d.os=w.os/\d.tape=w.tape/\d.output=w.output:=
 ⟨fun x g=>(k.other x g).trans (h.other x g),k.size.trans h.size,k.os.trans h.os,k.tape.trans h.tape,k.out.trans h.out⟩
theorem vd {w:World} {b:Nat} {cur:Array Value} {ty:TypeId} {frz:Nat×Nat} (h:hp w b=some (.cells cur ty frz)) (j:Nat):w.cell? ⟨b,j,none⟩=cur[j]? :=cell_of_row w b j cur ty frz h
theorem PA (b:Array Value) (n k:Nat) (hk:b.size=k) (f: ∀u∈b.toList,u.oneCell'=true):(Ä b n).toList.length=n*k/\ ∀u∈(Ä b n).toList,u.oneCell'=true:=by
 subst hk;unfold Ä;refine⟨by simp,fun u hu=> ?_⟩
 simp only [ó,Array.mem_map,Array.mem_range]at hu;obtain⟨j,hj,rfl⟩:=hu;have d:0<b.size:=by
  rcases Nat.eq_zero_or_pos b.size with h|h
  .rw [h]at hj;simp at hj
  .exact h
 refine f _ ?_
 rw [getElem!_pos b (j%b.size) (Nat.mod_lt _ d)];exact ó.2 (Array.getElem_mem _)
theorem abK {P:Program} (w:World) (t e ty:TypeId) (z:Value) (k:Nat) (h:P.underlying t=some (.slice e)) (i: ∀w,(zeroValue e).run P w=.ok z w) (hk:z.cells.size=k) (p: ∀u∈z.cells.toList,u.oneCell'=true) (b o n c:Nat) (s:0<n)
  (q: ∀j,j<n*k->(w.cell? ⟨b,o+j,none⟩).isSome=true) (r: ∀j,j<n*k->w.frozen? ⟨b,o+j,none⟩=false):
  (ą #[t] ty #[.slice (some ⟨b,o,none⟩) n c]).run P w=.ok (.tuple #[]) (w.setCells b o (Ä z.cells n).toList):=by
 obtain⟨g,f⟩:=PA z.cells n k hk p;have d:=run_storeCells_cells (P:=P) b o (Ä z.cells n).toList 0 w (by rw [g];simpa using q) (by rw [g];simpa using r) f
 simp only [Nat.add_zero]at d;obtain⟨m,rfl⟩: ∃m,n=m+1:=⟨n-1,by omega⟩
 simp [ą,run_underlying h,i,d]
end Go.Ev
namespace Go.Ev
open Go
theorem yV {P:Program} (w:World) (dT q ty elem:TypeId) (k b o d f:Nat) (a:Addr) (sLen sCap:Nat) (cs:List Value)
  (hu:P.underlying dT=some (.slice elem)) (p:(P.info? elem).map (·.size)=some k) (r:cs.length=ď sLen d*k)
  (g: ∀j v,cs[j]? =some v->w.cell? (a.add j)=some v) (s: ∀j,j<cs.length->(w.cell? ⟨b,o+j,none⟩).isSome=true) (t: ∀j,j<cs.length->w.frozen? ⟨b,o+j,none⟩=false) (u: ∀v∈cs,v.oneCell'=true):
  (ć #[dT,q] ty #[.slice (some ⟨b,o,none⟩) d f,.slice (some a) sLen sCap]).run P w=.ok (goInt (ď sLen d)) (w.setCells b o cs):=by
 have z:=run_loadCells_list (P:=P) w a cs g;have h:=run_storeCells_cells (P:=P) b o cs 0 w (by simpa using s) (by simpa using t) u
 cases m:P.info? elem with
 |none=>simp [m]at p
 |some i=>
  have hi:i.size=k:=by simpa [m]using p
  simp [ć,run_underlying hu,Ď,Č,sizeOf,typeInfo,m,hi,<-r,z,h]
theorem isSome_setCells (b:Nat) (vs:List Value) (o:Nat) (w:World) (h: ∀j,j<vs.length->(w.cell? ⟨b,o+j,none⟩).isSome=true) (k:Nat) (hk:(w.cell? ⟨b,k,none⟩).isSome=true):((w.setCells b o vs).cell? ⟨b,k,none⟩).isSome=true:=by
 by_cases d:o<=k/\k<o+vs.length
 .have:=World.cell?_setCells_in b vs o w h (k-o) (by omega)
  rw [show o+(k-o)=k by omega]at this
  rw [this];rfl
 .rw [World.cell?_setCells_out b vs o w ⟨b,k,none⟩ (fun _ _=>by show k<o\/o+vs.length<=k;omega)]
  exact hk
theorem qE {w:World} {b:Nat} {cur:Array Value} {ty:TypeId} {frz:Nat×Nat} (h:hp w b=some (.cells cur ty frz)) (k:Nat): ∀j v,(cur.toList.take k)[j]? =some v->w.cell? ⟨b,j,none⟩=some v:=fun j v hj=>by
 rw [Ò]at hj
 split at hj
 .rw [vd h];simpa using hj
 .cases hj
theorem PB {w:World} {b:Nat} {cur:Array Value} {ty:TypeId} {frz:Nat×Nat} (h:hp w b=some (.cells cur ty frz)) {j:Nat} (hj:j<cur.size):(w.cell? ⟨b,j,none⟩).isSome=true:=by
 rw [vd h,Ú hj];rfl
theorem PD {w:World} {b:Nat} {cur:Array Value} {ty:TypeId} {frz:Nat×Nat} (h:hp w b=some (.cells cur ty frz)):w.shape? b=some (ty,cur.size):=by
 have h:w.heap[b]? =some (.cells cur ty frz):=h;unfold World.shape?;rw [h]
end Go.Ev
namespace Go.Ev
open Go
theorem PE {gl:bF} {E:Entry} {w:World} {F R:Nat->Prop} {bl:Nat->Nat} {args:Array Value} {dB dA:List DV} {AB AA:Env} {k1 k2 k3:CK} (g:E.ins=[.one k1,.one k2,.one k3]) (m:E.bx=[]) (p:args.size=E.ins.length)
  (f:qu gl E w F R bl (fun i=>args.getD i undef) dB dA AB AA): ∃a b c d1 d2 d3 A1 A2 q,args= #[a,b,c]/\dB++dA=d1++(d2++d3)/\(∃L nm,aq (hp w) R (eQ bl) true L nm k1 d1 a A1)/\(∃L nm,aq (hp w) R (eQ bl) true L nm k2 d2 b A2)/\(∃L nm,aq (hp w) R (eQ bl) true L nm k3 d3 c q)/\(A1.fps++(A2.fps++q.fps)).Nodup/\ ∀x∈A1.fps++(A2.fps++q.fps),F x:=by
 rw [g]at p;obtain⟨l⟩:=args;match l,p with
 | [a,b,c],_=>
  have h:=f.kb;rw [m]at h;simp only [bT]at h;obtain⟨rfl,rfl⟩:=h;have j:=f.kt;rw [g]at j;simp only [gu,dQ,bX]at j;obtain⟨d1,r,A1,s,t,u,⟨-,z⟩,d2,ad,A2,ae,e3,e4,⟨-,h2⟩,d3,d4,q,A4,e5,e6,⟨-,h3⟩,e7,e8⟩:=j;subst t u e3 e4 e5 e6 e7 e8;have k:=f.nd;have d:=f.own;rw [m]at k d;simp only [Ý,Ø,Ð,Env.dj]at k d;exact⟨a,b,c,d1,d2,d3,A1,A2,q,rfl,by simp,⟨_,_,z⟩,⟨_,_,h2⟩,⟨_,_,h3⟩,k,d⟩
theorem ss {f:FuncId} {fn:Func} {ins:List bq} {ts:aR} {p:List DV->Option (bO [.sl ts])} {w w':World} {F R:Nat->Prop} {bl:Nat->Nat} {x:Interp (.sl ts)} {v:Value} {fp:List Nat} (h:w.heap.size<=w'.heap.size) (i: ∀b,b<w.heap.size-> ¬F b->hp w' b=hp w b) (j:w'.os=w.os) (k:w'.tape=w.tape) (m:w'.output=w.output)
  (g:aD (hp w') R true (enc (.sl ts) x) v fp) (d:fp.Nodup) (q: ∀b∈fp,F b\/w.heap.size<=b):iz {f:=f,fn:=fn,ins:=ins,bx:=[],outs:=.one (.own (.sl ts)),bP:=[],loops:=[],cQ:=[],bI:=[.sl ts],cg:=some p} w w' F R bl x v:=by
 refine⟨h,i,j,k,m,[⟨.sl ts,x⟩],[(fH 9000 0,v,fp)],[],[],rfl, ?_,by simp [dL,bT],by simpa [Env.fps]using d,fun b r=>q b (by simpa [Env.fps]using r)⟩
 simp only [bX,aq];exact⟨.inr g.cC,x,fp,rfl,rfl,g,rfl⟩
def dU (ts:aR) (x:List (bg ts)):List bf:=x.flatMap (bH ts)
theorem jj (ts:aR) (x:List (bg ts)):(dU ts x).length=x.length*ts.size:=by
 unfold dU;rw [ö,ø (g:=fun _=>ts.size) (fun x _=>uG ts x),Ă,í]
theorem ve (ts:aR) (x y:List (bg ts)):dU ts (x++y)=dU ts x++dU ts y:=by unfold dU;rw [List.flatMap_append]
theorem PF (ts:aR) (x:List (bg ts)) (i:Nat):dU ts (x.take i)=(dU ts x).take (i*ts.size):=by
 by_cases h:i<=x.length
 .have e:=ve ts (x.take i) (x.drop i)
  rw [Ë]at e;rw [e,É];rw [jj,Á,Ó h]
 .rw [Ì (by omega),Ì]
  rw [jj];exact Â _ (by omega)
theorem PG (ts:aR) (x:List (bg ts)) (i:Nat):dU ts (x.drop i)=(dU ts x).drop (i*ts.size):=by
 by_cases h:i<=x.length
 .have e:=ve ts (x.take i) (x.drop i)
  rw [Ë]at e;rw [e,Ą];rw [jj,Á,Ó h]
 .rw [Í (by omega),Í]
  .rfl
  .rw [jj]
   exact Â _ (by omega)
theorem vf {ts:aR} (h:oS ts=true) (x:List (bg ts)): ∀d∈dU ts x,oT d=true:=fun d hd=>by
 obtain⟨y, -,hy⟩:=Ā.1 hd;exact Fm h y d hy
section
variable {H H':Heap} {R R':Nat→Prop} {own own':Bool}
theorem au.PH {ds:List bf} {vs:List Value} {fp:List Nat} (f: ∀d∈ds,oT d=true) (h:au H R own ds vs fp) (k:Nat) (hk:k<=ds.length):au H' R' own' (ds.take k) (vs.take k) []:=by
 have g:au H R own (ds.take k++ds.drop k) vs fp:=by rw [Ë];exact h
 obtain⟨f1,f2, -,b, -⟩:=au.split g;rw [Á,Ó hk]at b;exact(au.flat (fun d hd=>f d (List.mem_of_mem_take hd)) b).2
theorem au.PI {ds:List bf} {vs:List Value} {fp:List Nat} (f: ∀d∈ds,oT d=true) (h:au H R own ds vs fp) (k:Nat) (hk:k<=ds.length):au H' R' own' (ds.drop k) (vs.drop k) []:=by
 have g:au H R own (ds.take k++ds.drop k) vs fp:=by rw [Ë];exact h
 obtain⟨f1,f2, -, -,b⟩:=au.split g;rw [Á,Ó hk]at b;exact(au.flat (fun d hd=>f d (List.mem_of_mem_drop hd)) b).2
theorem au.vg {ds es:List bf} {vs us:List Value} (h:au H R own ds vs []) (k:au H R own es us []):au H R own (ds++es) (vs++us) []:=by
 have:=h.append k;simpa using this
theorem Ft {ts:aR} (d:oS ts=true) {x:Interp (.sl ts)} {v:Value} {fp:List Nat} (h:aD H R true (enc (.sl ts) x) v fp): ∃a len cap,v=.slice a len cap/\0<ts.size/\(x:List (bg ts)).length=len/\len<=cap/\cap<=maxLen/\((cap=0/\fp=[])\/ ∃g cur ty frz,a=some ⟨g,0,none⟩/\H g=some (.cells cur ty frz)/\cur.size=cap*ts.size/\nY ts.size cur.size frz/\fp=[g]/\au H R true (dU ts x) (cur.toList.take (len*ts.size)) []):=by
 have h:aD H R true (.l ts.size (dU ts x)) v fp:=h;simp only [aD]at h;obtain⟨a,len,cap,rfl,f,i,j,k,b⟩:=h;have m:(x:List (bg ts)).length=len:=æ f ((jj ts x).symm.trans i);refine⟨a,len,cap,rfl,f,m,j,k, ?_⟩
 rcases b with⟨-,b⟩|⟨b, -⟩
 .rcases b with b|⟨g,cur,ty,frz,fps,k1,k2,k3,p,q,r⟩
  .exact .inl b
  .obtain⟨rfl,s⟩:=au.flat (H':=H) (R':=R) (own':=true) (vf d x) r
   exact .inr ⟨g,cur,ty,frz,k1,k2,k3,p,q,s⟩
 .cases b
theorem yW {ts:aR} {x:Interp (.sl ts)} {g len cap:Nat} {cur:Array Value} {ty:TypeId} {frz:Nat×Nat} (b:0<ts.size) (d:(x:List (bg ts)).length=len) (f:len<=cap) (h:cap<=maxLen) (i:H g=some (.cells cur ty frz)) (j:cur.size=cap*ts.size) (k:nY ts.size cur.size frz) (m:au H R true (dU ts x) (cur.toList.take (len*ts.size)) []):aD H R true (enc (.sl ts) x) (.slice (some ⟨g,0,none⟩) len cap) [g]:=by
 show aD H R true (.l ts.size (dU ts x)) _ _;simp only [aD];exact⟨_,len,cap,rfl,b,by rw [jj,d],f,h,.inl ⟨trivial,.inr ⟨g,cur,ty,frz,[],rfl,i,j,k,rfl,m⟩⟩⟩
end
theorem abL {P:Program} {gl:bF} {f:FuncId} {fn:Func} {ts:aR} (d:oS ts=true) (ar: ∀(x:Interp (.sl ts)) (i j:Int),eG [.sl ts,.int .i64,.int .i64] [⟨.sl ts,x⟩,⟨.int .i64,i⟩,⟨.int .i64,j⟩]=some (x,i,j))
  (hc: ∀(aO n cap i j:Nat) (cur:Array Value) (ty:TypeId) (frz:Nat×Nat) (w:World),hp w aO=some (.cells cur ty frz)->cur.size=cap*ts.size->ir cur.size frz->n<=cap->cap<=maxLen->i<j->j<=n->(∀u∈cur.toList.take (n*ts.size),u.oneCell'=true)->
   Calls P f #[.slice (some ⟨aO,0,none⟩) n cap,.int .i64 i,.int .i64 j] w fun e w'=>e=.returned (.slice (some ⟨aO,0,none⟩) (n-(j-i)) cap)/\ ∃news zs,news=(cur.toList.take (n*ts.size)).drop (j*ts.size)/\w'=(w.drew.setCells aO (i*ts.size) news).setCells aO ((i+(n-j))*ts.size) zs/\zs.length=(j-i)*ts.size)
  (av: ∀(a:Option Addr) (n cap i:Nat) (w:World),i<=n->n<=cap->cap<=maxLen->(a=none->cap=0)->Calls P f #[.slice a n cap,.int .i64 i,.int .i64 i] w fun e w'=>e=.returned (.slice a n cap)/\w'=w)
  (ds:List DV) (r:bO [.sl ts]) (h:uK (.sl ts) ds=some r):
  cW P gl {f:=f,fn:=fn,ins:=[.one (.own (.sl ts)),.one (.int .i64),.one (.int .i64)],bx:=[],outs:=.one (.own (.sl ts)),bP:=[],loops:=[],cQ:=[],bI:=[.sl ts],cg:=some (uK (.sl ts))} ds r:=by
 intro w F R bl args dB dA AB AA p aw ax;obtain⟨a,b,c,d1,d2,d3,A1,A2,A3,rfl,e0,⟨L1,bk,k1⟩,⟨L2,bm,k2⟩,⟨L3,bn,k3⟩,ay,hF⟩:=PE (k1:=.own (.sl ts)) (k2:=.int .i64) (k3:=.int .i64) rfl rfl aw ax;rw [e0]at p;simp only [aq]at k1 k2 k3;obtain⟨x,fp,rfl, -,s,rfl⟩:=k1;obtain⟨i,rfl,rfl, -,rfl⟩:=k2;obtain⟨j,rfl,rfl, -,rfl⟩:=k3;have p:ds=[⟨.sl ts,x⟩,⟨.int .i64,i⟩,⟨.int .i64,j⟩]:=p;subst p;obtain⟨i,hi⟩: ∃k:Int,k=i:=⟨i,rfl⟩
 obtain⟨j,hj⟩: ∃k:Int,k=j:=⟨j,rfl⟩
 subst hi hj;obtain⟨x,hx⟩: ∃y:List (bg ts),y=x:=⟨x,rfl⟩
 subst hx;have h':cond (decide (0<=i/\i<=j/\j<=(x.length:Int))) (some (x.take i.toNat++x.drop j.toNat)) none=some r:=by
  unfold uK at h;rw [ar x i j]at h;exact h
 by_cases q: ¬(0<=i/\i<=j/\j<=(x.length:Int))
 .rw [hL q]at h';cases h'
 have q:=Classical.not_not.1 q;rw [hJ q]at h';have hr:x.take i.toNat++x.drop j.toNat=r:=È h';subst hr;obtain⟨i,rfl⟩: ∃k:Nat,i=k:=⟨i.toNat,by omega⟩
 obtain⟨j,rfl⟩: ∃k:Nat,j=k:=⟨j.toNat,by omega⟩
 rw [ß,ß];obtain⟨ad,n,cap,rfl,h0,hl,h2,h3,h4⟩:=Ft d s;have hlen:x.length=n:=hl;have z: ∀b∈fp,F b:=fun b hb=>hF b (by simp [Env.fps,hb])
 have t:fp.Nodup:=by have:=(ÿ.1 ay).1;simpa [Env.fps]using this
 by_cases he:i=j
 .subst he
  refine(av ad n cap i w (by omega) h2 h3 (fun ha=> ?_)).mono ?_
  .rcases h4 with⟨h4, -⟩|⟨g,cur,ty,frz,hg, -⟩
   .exact h4
   .rw [ha]at hg;cases hg
  .rintro e w' ⟨rfl,rfl⟩
   refine ss (Å _) (fun _ _ _=>rfl) rfl rfl rfl ?_ t (fun b hb=>.inl (z b hb))
   rw [Ë];exact s
 .rcases h4 with⟨rfl, -⟩|⟨g,cur,ty,frz,rfl,hg,hs,hz,rfl,ae⟩
  .omega
  have bz:=ox hg;refine(hc g n cap i j cur ty frz w hg hs hz.1 h2 h3 (by omega) (by omega) (fun u hu=>yS (au.cC ae u hu))).mono ?_
  rintro e w' ⟨rfl,news,zs,m,rfl,a1⟩
  have m0:i*ts.size<=j*ts.size:=Â _ (by omega)
  have m1:j*ts.size<=n*ts.size:=Â _ (by omega)
  have m2:n*ts.size<=cap*ts.size:=Â _ h2;have ca:news.length=n*ts.size-j*ts.size:=by rw [m,â,Á,Æ];omega
  have e1:(i+(n-j))*ts.size=i*ts.size+(n*ts.size-j*ts.size):=by rw [ô,õ]
  have e2:(j-i)*ts.size=j*ts.size-i*ts.size:=õ _ _ _;have s1:=setAt g ty frz news (i*ts.size) cur w.drew hg (by omega)
  obtain⟨ah,p1,p2,p3⟩:=s1.row;have s2:=setAt g ty frz zs ((i+(n-j))*ts.size) ah _ p1 (by rw [p2,a1,e1,e2];omega)
  obtain⟨bf,q1,q2,q3⟩:=s2.row;obtain⟨t1,t2,t3,t4,t5⟩:=s1.trans s2;refine ss (by rw [t2];exact Å _) (fun b hb a6=>t1 b (fun e=>a6 (e▸z g (by simp)))) t3 t4 t5 (yW h0 ?_ (Nat.le_trans (Nat.sub_le _ _) h2) h3 q1 (by rw [q2,p2,hs]) (by rw [q2,p2];exact hz) ?_) t (fun b hb=>.inl (z b hb))
  .show(x.take i++x.drop j).length=_
   rw [Ã,Á,â];omega
  .have e3:(n-(j-i))*ts.size=(i+(n-j))*ts.size:=by rw [show n-(j-i)=i+(n-j) by omega]
   rw [e3,q3,É]
   .rw [ve,PF,PG,p3,e1]
    have e4:((cur.toList.take (i*ts.size))++(news++cur.toList.drop (i*ts.size+news.length))).take (i*ts.size+(n*ts.size-j*ts.size))=(cur.toList.take (n*ts.size)).take (i*ts.size)++(cur.toList.take (n*ts.size)).drop (j*ts.size):=by
     rw [<-Ç,É,<-m,è,Ó (by omega)]
     rw [Ã,Á,Æ];omega
    rw [e4];exact au.vg (au.PH (vf d x) ae _ (by rw [jj,hlen];omega)) (au.PI (vf d x) ae _ (by rw [jj,hlen];omega))
   .rw [Á,Æ,p2];omega
structure PJ (P:Program) (f:FuncId) (sz:Nat) (e:TypeId) (zero:Value):Prop where
 nix: ∀(a:Option Addr) (n c i:Nat) (b:Option Addr) (vc:Nat) (w:World),i<=n->n<=c->c<=9223372036854775807->(a=none->c=0)->Calls P f #[.slice a n c,.int .i64 i,.slice b 0 vc] w fun e w'=>e=.returned (.slice a n c)/\w'=w
 room: ∀(aO n c vb m vc:Nat) (cur ck:Array Value) (ty dW:TypeId) (w:World),hp w aO=some (.cells cur ty (0,0))->hp w vb=some (.cells ck dW (0,0))->cur.size=c*sz->ck.size=vc*sz->0<m->m<=vc->n+m<=c->c<=9223372036854775807->(∀u∈ck.toList.take (m*sz),u.oneCell'=true)->
  Calls P f #[.slice (some ⟨aO,0,none⟩) n c,.int .i64 n,.slice (some ⟨vb,0,none⟩) m vc] w fun e w'=>e=.returned (.slice (some ⟨aO,0,none⟩) (n+m) c)/\w'=w.setCells aO (n*sz) (ck.toList.take (m*sz))
 grow: ∀(base:Option Addr) (n c vb m vc:Nat) (cs:List Value) (ck:Array Value) (dW:TypeId) (w:World),hp w vb=some (.cells ck dW (0,0))->ck.size=vc*sz->0<m->m<=vc->n<=c->c<n+m->n+m<=aC->cs.length=n*sz->(base=none->n=0)->(∀a,base=some a-> ∀j v,cs[j]? =some v->w.cell? (a.add j)=some v)->(∀u∈ck.toList.take (m*sz),u.oneCell'=true)->
  Calls P f #[.slice base n c,.int .i64 n,.slice (some ⟨vb,0,none⟩) m vc] w fun r w'=>r=.returned (.slice (some ⟨w.heap.size,0,none⟩) (n+m) (grownCap w (n+m) c e))/\w'=w.drew.alloc (.cells ((cs++ck.toList.take (m*sz)).toArray++Ä zero.cells (grownCap w (n+m) c e-(n+m))) e)
 shift: ∀(aO n c i vb m vc:Nat) (cur ck:Array Value) (ty dW:TypeId) (w:World),hp w aO=some (.cells cur ty (0,0))->hp w vb=some (.cells ck dW (0,0))->cur.size=c*sz->ck.size=vc*sz->i<n->0<m->m<=vc->n+m<=c->c<=9223372036854775807->vb≠aO->(∀u∈cur.toList.take (n*sz),u.oneCell'=true)->(∀u∈ck.toList.take (m*sz),u.oneCell'=true)->
  Calls P f #[.slice (some ⟨aO,0,none⟩) n c,.int .i64 i,.slice (some ⟨vb,0,none⟩) m vc] w fun e w'=>e=.returned (.slice (some ⟨aO,0,none⟩) (n+m) c)/\w'=(w.drew.setCells aO ((i+m)*sz) ((cur.toList.take (n*sz)).drop (i*sz))).setCells aO (i*sz) (ck.toList.take (m*sz))
 mid: ∀(aO n c i vb m vc:Nat) (cur ck:Array Value) (ty dW:TypeId) (w:World),hp w aO=some (.cells cur ty (0,0))->hp w vb=some (.cells ck dW (0,0))->cur.size=c*sz->ck.size=vc*sz->i<n->0<m->m<=vc->n<=c->c<n+m->n+m<=aC->(∀u∈cur.toList.take (n*sz),u.oneCell'=true)->(∀u∈ck.toList.take (m*sz),u.oneCell'=true)->
  Calls P f #[.slice (some ⟨aO,0,none⟩) n c,.int .i64 i,.slice (some ⟨vb,0,none⟩) m vc] w fun r w'=>r=.returned (.slice (some ⟨w.heap.size,0,none⟩) (n+m) (grownCap w (n+m) c e))/\
   w'=(((w.alloc (.cells (((cur.toList.take (n*sz)).take (i*sz)).toArray++Ä zero.cells (n+m-i)++Ä zero.cells (grownCap w (n+m) c e-(n+m))) e)).drew.setCells w.heap.size (i*sz) (ck.toList.take (m*sz))).drew).setCells w.heap.size ((i+m)*sz) ((cur.toList.take (n*sz)).drop (i*sz))
theorem Fu (z:Array Value) (n:Nat):(Ä z n).size=n*z.size:=by simp [Ä]
theorem PK (b:Nat): ∀(vs:List Value) (o:Nat) (w:World),(w.setCells b o vs).drew=w.drew.setCells b o vs
 | [],_,_=>rfl
 |v::r,o,w=>by rw [World.setCells,World.setCells,PK b r];rfl
theorem abN {P:Program} {gl:bF} {f:FuncId} {fn:Func} {ts:aR} {e:TypeId} {zero:Value} (p:oS ts=true) (al:ts.size≠1) (hzero:zero.cells.size=ts.size) (c6: ∀(x:Interp (.sl ts)) (i:Int) (y:Interp (.sl ts)),eG [.sl ts,.int .i64,.sl ts] [⟨.sl ts,x⟩,⟨.int .i64,i⟩,⟨.sl ts,y⟩]=some (x,i,y))
  (hc:PJ P f ts.size e zero)
  (ds:List DV) (r:bO [.sl ts]) (h:sa (.sl ts) ds=some r):
  cW P gl {f:=f,fn:=fn,ins:=[.one (.own (.sl ts)),.one (.int .i64),.one (.own (.sl ts))],bx:=[],outs:=.one (.own (.sl ts)),bP:=[],loops:=[],cQ:=[],bI:=[.sl ts],cg:=some (sa (.sl ts))} ds r:=by
 intro w F R bl args dB dA AB AA a7 c7 c8;obtain⟨a,b,c,d1,d2,d3,A1,A2,A3,rfl,e0,⟨L1,dw,k1⟩,⟨L2,dx,k2⟩,⟨L3,dy,k3⟩,c9,hF⟩:=PE (k1:=.own (.sl ts)) (k2:=.int .i64) (k3:=.own (.sl ts)) rfl rfl c7 c8;rw [e0]at a7;simp only [aq]at k1 k2 k3;obtain⟨x,fp,rfl, -,bn,rfl⟩:=k1;obtain⟨i,rfl,rfl, -,rfl⟩:=k2;obtain⟨y,fq,rfl, -,bq,rfl⟩:=k3;have a7:ds=[⟨.sl ts,x⟩,⟨.int .i64,i⟩,⟨.sl ts,y⟩]:=a7;subst a7;obtain⟨i,hi⟩: ∃k:Int,k=i:=⟨i,rfl⟩
 subst hi;obtain⟨x,hx⟩: ∃y:List (bg ts),y=x:=⟨x,rfl⟩
 obtain⟨y,hy⟩: ∃z:List (bg ts),z=y:=⟨y,rfl⟩
 subst hx hy;have h':cond (decide (0<=i/\i<=(x.length:Int))&&Þ (x.length+y.length) aC) (some (x.take i.toNat++(y++x.drop i.toNat))) none=some r:=by
  unfold sa at h;rw [c6 x i y]at h;exact h
 by_cases a8: ¬(0<=i/\i<=(x.length:Int))
 .rw [hL a8]at h';cases h'
 have a8:=Classical.not_not.1 a8;rw [hJ a8,Bool.true_and]at h';cases bd:Þ (x.length+y.length) aC with
 |false=>rw [bd]at h';cases h'
 |true=>
 rw [bd]at h';have bd:=Ê bd;have hr:x.take i.toNat++(y++x.drop i.toNat)=r:=È h';subst hr;obtain⟨i,rfl⟩: ∃k:Nat,i=k:=⟨i.toNat,by omega⟩
 rw [ß];obtain⟨ad,n,cap,rfl,h0,hl,h2,h3,h4⟩:=Ft p bn;obtain⟨av,m,vc,rfl, -,dc,ao,ef,dd⟩:=Ft p bq;have hlen:x.length=n:=hl;have bt:y.length=m:=dc;have bo:i<=n:=by omega
 have ar:n+m<=aC:=by omega
 have bu:cap<=9223372036854775807:=by unfold maxLen at h3;omega
 have bp:(fp++fq).Nodup:=by simpa [Env.fps]using c9
 have aw: ∀b∈fp,F b:=fun b s=>hF b (by simp [Env.fps,s])
 have ax:fp.Nodup:=(ÿ.1 bp).1;have ah:ad=none->cap=0:=fun ha=>by
  rcases h4 with⟨h4, -⟩|⟨g,cur,ty,frz,hg, -⟩
  .exact h4
  .rw [ha]at hg;cases hg
 have bf:=vf p x;have bw:=vf p y;by_cases de:m=0
 .subst de
  have df:y=[]:=Ñ.1 bt;subst df;refine(hc.nix ad n cap i av vc w bo h2 bu ah).mono ?_
  rintro e w' ⟨rfl,rfl⟩
  refine ss (Å _) (fun _ _ _=>rfl) rfl rfl rfl ?_ ax (fun b s=>.inl (aw b s))
  rw [Ý,Ë];exact bn
 rcases dd with⟨rfl, -⟩|⟨gv,ck,dW,cm,rfl,bh,bj,dh,rfl,bk⟩
 .omega
 have di:cm=(0,0):=dh.2.resolve_left al;subst di;have bm: ∀u∈ck.toList.take (m*ts.size),u.oneCell'=true:=fun u hu=>yS (au.cC bk u hu)
 obtain⟨vs,t⟩: ∃vs,vs=ck.toList.take (m*ts.size):=⟨_,rfl⟩
 have mv:m*ts.size<=vc*ts.size:=Â _ ao;have ae:vs.length=m*ts.size:=by rw [t,Á,Æ];omega
 have az:(x.take i++(y++x.drop i)).length=n+m:=by rw [Ã,Ã,Á,â];omega
 have q:dU ts (x.take i++(y++x.drop i))=(dU ts x).take (i*ts.size)++(dU ts y++(dU ts x).drop (i*ts.size)):=by rw [ve,ve,PF,PG]
 have mi:i*ts.size<=n*ts.size:=Â _ bo;have mn:n*ts.size<=cap*ts.size:=Â _ h2;have bz:(n+m)*ts.size=n*ts.size+m*ts.size:=ô _ _ _;have cn:(i+m)*ts.size=i*ts.size+m*ts.size:=ô _ _ _;have ai:n+m<=grownCap w (n+m) cap e:=grownCap_ge w _ _ _;have cp:grownCap w (n+m) cap e<=maxLen:=grownCap_le_maxLen w _ _ _ (by unfold maxLen;unfold aC at ar;omega)
 have fresh: ∀ {w':World} {kf:Array Value},hp w' w.heap.size=some (.cells kf e (0,0))->(∀b,b<w.heap.size->hp w' b=hp w b)->w.heap.size<=w'.heap.size->w'.os=w.os->w'.tape=w.tape->w'.output=w.output->kf.size=grownCap w (n+m) cap e*ts.size->au (hp w') R true (dU ts (x.take i++(y++x.drop i))) (kf.toList.take ((n+m)*ts.size)) []->
   iz {f:=f,fn:=fn,ins:=[.one (.own (.sl ts)),.one (.int .i64),.one (.own (.sl ts))],bx:=[],outs:=.one (.own (.sl ts)),bP:=[],loops:=[],cQ:=[],bI:=[.sl ts],cg:=some (sa (.sl ts))} w w' F R bl (x.take i++(y++x.drop i)) (.slice (some ⟨w.heap.size,0,none⟩) (n+m) (grownCap w (n+m) cap e)):=fun q1 q2 q3 q4 q5 q6 q7 q8=>
  ss q3 (fun b s _=>q2 b s) q4 q5 q6 (yW h0 az ai cp q1 q7 (oE _ _) q8) (List.nodup_cons.2 ⟨by simp,ç⟩) (fun b s=>.inr (by rw [û.1 s];exact Å _))
 by_cases cq:i=n
 .subst cq
  have et:x.take i=x:=Ì (by omega)
  have ed:x.drop i=[]:=Í (by omega)
  by_cases d:i+m<=cap
  .rcases h4 with⟨rfl, -⟩|⟨g,cur,ty,frz,rfl,hg,hs,hz,rfl,af⟩
   .omega
   have cb:frz=(0,0):=hz.2.resolve_left al;subst cb;refine(hc.room g i cap gv m vc cur ck ty dW w hg bh hs bj (by omega) ao d bu bm).mono ?_
   rintro e w' ⟨rfl,rfl⟩
   rw [<-t];have mr:(i+m)*ts.size<=cap*ts.size:=Â _ d;have s1:=setAt g ty (0,0) vs (i*ts.size) cur w hg (by omega)
   obtain⟨aj,p1,p2,p3⟩:=s1.row;refine ss (by rw [s1.size];exact Å _) (fun b s cc=>s1.other b (fun e=>cc (e▸aw g (by simp)))) s1.os s1.tape s1.out (yW h0 az d h3 p1 (by rw [p2,hs]) (oE _ _) ?_) ax (fun b s=>.inl (aw b s))
   rw [q,p3,bz];have e1:((dU ts x).take (i*ts.size))=dU ts x:=Ì (by rw [jj,hlen];exact Å _)
   have e2:((dU ts x).drop (i*ts.size))=[]:=Í (by rw [jj,hlen];exact Å _)
   rw [e1,e2,Ð,<-Ç,É]
   .exact au.vg (au.flat bf af).2 (by rw [t];exact(au.flat bw bk).2)
   .rw [Ã,Á,Æ,ae];omega
  .have ag: ∃cs:List Value,cs.length=i*ts.size/\(∀a,ad=some a-> ∀j v,cs[j]? =some v->w.cell? (a.add j)=some v)/\(∀H,au H R true (dU ts x) cs []):=by
    rcases h4 with⟨rfl, -⟩|⟨g,cur,ty,frz,rfl,hg,hs,hz,rfl,af⟩
    .have dm:i=0:=by omega
     subst dm;have dn:x=[]:=Ñ.1 hlen;subst dn;exact⟨[],by simp,fun _ _ j v hj=>by simp at hj,fun H=>by simp [dU,au]⟩
    .refine⟨cur.toList.take (i*ts.size),by rw [Á,Æ];omega,fun a ha j v hj=> ?_,fun H=>(au.flat bf af).2⟩
     cases ha;rw [Addr.add_lit,ì];exact qE hg _ j v hj
   obtain⟨cs,c1,c2,c3⟩:=ag;refine(hc.grow ad i cap gv m vc cs ck dW w bh bj (by omega) ao h2 (by omega) ar c1 (fun ha=>by have:=ah ha;omega) c2 bm).mono ?_
   rintro e' w' ⟨rfl,rfl⟩
   rw [<-t];refine fresh (heap_alloc_new w.drew _) (fun b s=>xO w.drew _ s) (by show w.heap.size<=(w.heap.push _).size;simp) rfl rfl rfl ?_ ?_
   .rw [ë,Fu,hzero,Õ,Ã,c1,ae,<-bz,<-ô,Nat.add_sub_cancel' ai]
   .rw [ú,É,q]
    .have e1:((dU ts x).take (i*ts.size))=dU ts x:=Ì (by rw [jj,hlen];exact Å _)
     have e2:((dU ts x).drop (i*ts.size))=[]:=Í (by rw [jj,hlen];exact Å _)
     rw [e1,e2,Ð];exact au.vg (c3 _) (by rw [t];exact(au.flat bw bk).2)
    .rw [Ã,c1,ae,bz]
 .have cv:i<n:=by omega
  rcases h4 with⟨rfl, -⟩|⟨g,cur,ty,frz,rfl,hg,hs,hz,rfl,af⟩
  .omega
  have cb:frz=(0,0):=hz.2.resolve_left al;subst cb;have dp:gv≠g:=fun e=>by subst e;simp at bp
  have cw: ∀u∈cur.toList.take (n*ts.size),u.oneCell'=true:=fun u hu=>yS (au.cC af u hu)
  obtain⟨cs,ag⟩: ∃cs,cs=cur.toList.take (n*ts.size):=⟨_,rfl⟩
  have ak:cs.length=n*ts.size:=by rw [ag,Á,Æ];omega
  have cx:(cs.drop (i*ts.size)).length=n*ts.size-i*ts.size:=by rw [â,ak]
  have rel: ∀H,au H R true ((dU ts x).take (i*ts.size)++(dU ts y++(dU ts x).drop (i*ts.size))) (cs.take (i*ts.size)++(vs++cs.drop (i*ts.size))) []:=fun H=>by
   rw [ag,t];exact au.vg (au.PH bf af _ (by rw [jj,hlen];exact mi)) (au.vg (au.flat bw bk).2 (au.PI bf af _ (by rw [jj,hlen];exact mi)))
  by_cases d:n+m<=cap
  .have mr:(n+m)*ts.size<=cap*ts.size:=Â _ d
   refine(hc.shift g n cap i gv m vc cur ck ty dW w hg bh hs bj cv (by omega) ao d bu dp cw bm).mono ?_
   rintro e' w' ⟨rfl,rfl⟩
   rw [<-t,<-ag];have s1:=setAt g ty (0,0) (cs.drop (i*ts.size)) ((i+m)*ts.size) cur w.drew hg (by omega)
   obtain⟨aj,p1,p2,p3⟩:=s1.row;have s2:=setAt g ty (0,0) vs (i*ts.size) aj _ p1 (by omega)
   obtain⟨a1,q1,q2,q3⟩:=s2.row;obtain⟨t1,t2,t3,t4,t5⟩:=s1.trans s2;refine ss (by rw [t2];exact Å _) (fun b s cc=>t1 b (fun e=>cc (e▸aw g (by simp)))) t3 t4 t5 (yW h0 az d h3 q1 (by rw [q2,p2,hs]) (oE _ _) ?_) ax (fun b s=>.inl (aw b s))
   rw [q];have e3:a1.toList.take ((n+m)*ts.size)=cs.take (i*ts.size)++(vs++cs.drop (i*ts.size)):=by
    rw [q3,p3,ae,<-cn];have d1:((cur.toList.take ((i+m)*ts.size))++(cs.drop (i*ts.size)++cur.toList.drop ((i+m)*ts.size+(cs.drop (i*ts.size)).length))).drop ((i+m)*ts.size)=cs.drop (i*ts.size)++cur.toList.drop ((i+m)*ts.size+(cs.drop (i*ts.size)).length):=Ą (by rw [Á,Æ];omega)
    have d2:((cur.toList.take ((i+m)*ts.size))++(cs.drop (i*ts.size)++cur.toList.drop ((i+m)*ts.size+(cs.drop (i*ts.size)).length))).take (i*ts.size)=cs.take (i*ts.size):=by
     rw [List.take_append_of_le_length (by rw [Á,Æ];omega),è,ag,è]
     congr 1
     omega
    rw [d1,d2,<-Ç vs,<-Ç,É];rw [Ã,Ã,Á,ak,ae,cx];omega
   rw [e3];exact rel _
  .refine(hc.mid g n cap i gv m vc cur ck ty dW w hg bh hs bj cv (by omega) ao h2 (by omega) ar cw bm).mono ?_
   rintro e' w' ⟨rfl,rfl⟩
   rw [<-t,<-ag,PK];obtain⟨row,a6⟩: ∃row:Array Value,row=(cs.take (i*ts.size)).toArray++Ä zero.cells (n+m-i)++Ä zero.cells (grownCap w (n+m) cap e-(n+m)):=⟨_,rfl⟩
   have cy:row.size=grownCap w (n+m) cap e*ts.size:=by
    have b1:(n+m-i)*ts.size=(n+m)*ts.size-i*ts.size:=õ _ _ _;have b2:(grownCap w (n+m) cap e-(n+m))*ts.size=grownCap w (n+m) cap e*ts.size-(n+m)*ts.size:=õ _ _ _;have b3:(n+m)*ts.size<=grownCap w (n+m) cap e*ts.size:=Â _ ai;rw [a6,ë,ë,Fu,Fu,hzero,Õ,Á,ak];omega
   have dr:row.toList.take (i*ts.size)=cs.take (i*ts.size):=by
    rw [a6,Array.append_assoc,ú,É];rw [Á,ak];omega
   rw [<-a6];have b3:(n+m)*ts.size<=grownCap w (n+m) cap e*ts.size:=Â _ ai;have cz:hp ((w.alloc (.cells row e)).drew.drew) w.heap.size=some (.cells row e (0,0)):=heap_alloc_new w _;have s1:=setAt w.heap.size e (0,0) vs (i*ts.size) row _ cz (by omega)
   obtain⟨aj,p1,p2,p3⟩:=s1.row;have s2:=setAt w.heap.size e (0,0) (cs.drop (i*ts.size)) ((i+m)*ts.size) aj _ p1 (by omega)
   obtain⟨a1,q1,q2,q3⟩:=s2.row;obtain⟨t1,t2,t3,t4,t5⟩:=s1.trans s2;refine fresh q1 (fun b s=>(t1 b (by omega)).trans (xO w _ s)) (by rw [t2];show w.heap.size<=(w.heap.push _).size;simp) t3 t4 t5 (by rw [q2,p2,cy]) ?_
   rw [q];have e3:a1.toList.take ((n+m)*ts.size)=cs.take (i*ts.size)++(vs++cs.drop (i*ts.size)):=by
    rw [q3,p3,dr,ae];have d2:(cs.take (i*ts.size)++(vs++row.toList.drop (i*ts.size+m*ts.size))).take ((i+m)*ts.size)=cs.take (i*ts.size)++vs:=by
     rw [<-Ç,É];rw [Ã,Á,ak,ae,cn];omega
    rw [d2,<-Ç,Ç (cs.take (i*ts.size)),É];rw [Ã,Ã,Á,ak,ae,cx];omega
   rw [e3];exact rel _
end Go.Ev
namespace Go.Ev
open Go Go.Proofs Go.Shelf Go.RowKit Go.Lib
variable {P:Program} {ρ:Ren}
set_option maxHeartbeats 2000000 in
set_option maxRecDepth 100000 in
theorem Fv (L:SlLaysE0.n41 P ρ) (i0:TypeInfo) (z:Value) (size bytes:Nat) (hi:P.info? (ρ.t 23)=some i0) (h:i0.zero=some z) (i:i0.size=size) (m:i0.bytes=bytes) (p:z.cells.size=size) (q:0<size)
  (z23: ∀w,(Go.sizeOf (ρ.t 23)).run P w=.ok size w) (a:Addr) (c:Nat) (w:World):
  Calls P (ρ.f 41) #[.slice (some a) 0 c] w fun e w'=> ∃g,e=.returned g/\w'.ownsRow w.heap.size (ρ.t 23) size g 0 []/\Below w.heap.size w w':=by
 have mixed:=L.mixed;have t4:=L.t4;have a4:=L.a4;have z4:=L.z4;have v4:=L.v4;have t22:=L.t22;have a22:=L.a22;have z22:=L.z22;have v22:=L.v22;have ak: ∀(w:World) (a:Option Addr) (n c r s:Nat),(binOp .eql (ρ.t 22) (.slice a n c) (.slice none r s)).run P w=.ok (.bool a.isNone) w:=fun w a n c r s=>Lib.run_eql_slice_nil w _ _ a n c r s L.t22
 have al: ∀w,Sem.run P (underlying (ρ.t 22)) w=.ok (TypeDesc.slice (ρ.t 23)) w:=run_underlying t22
 obtain⟨_,_,FG⟩:=L.f41;go_enter FG,SlBodyN.n41_ntmps ρ
 go_wp2_with (at_builtin;refine wpList_append_own _ rfl _ _ (ρ.t 22) rfl w.heap.size (ρ.t 23) i0 z size bytes t22 hi h i m p q _ _ _ rfl (World.ownsRow_made w #[] 0 (Å _) (ð _) (by simp)) a 0 c [] rfl ?ad ?ae ?af ?ag ?ah ?ai ?_)
 case ad=>simp
 case ae=>intro j u hj;simp at hj
 case af=>intro u hu;simp at hu
 case ag=>exact ð _
 case ah=>simp
 case ai=>simp
 intro g w1 d b aj;go_wp2
 go_ret
 refine⟨g,rfl,by simpa using d, ?_⟩
 exact((Below.refl _ w).alloc (Å _) _).grown b (by simp) (by intro k hk;simp [Value.ownBlock]at hk;omega)
end Go.Ev
