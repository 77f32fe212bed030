/- A verified evaluator of the machine's code, part 5: no program in sight. -/
import GoSem.ClaimGoes
import Derived.KernelRfl
import Derived.Test.YtfledcdkafkgaaaGreatDoorEv4
import Derived.Laws.AppendOwn
import Derived.Lib.IndexMore
import Derived.Handed
import Derived.Shelf.Vars
import Derived.Sort.Grow
import Derived.Lib.SplitLaws
import Derived.Lib.SliceRun
import Derived.Deep.RegionLaw
import Derived.Laws.IdiomCopy
import Derived.Shelf.SlicesE.Clone
open Go.Value renaming string->À,int->Ó
open List renaming length_take->Á,length_append->Ã,append_assoc->Å,take_left'->Ç,take_append_drop->Ê,take_of_length_le->Ì,drop_of_length_le->Í,append_nil->Ð,getElem?_take->Ñ,length->Ô,flatMap->Õ,drop_succ_cons->Ø,getElem?_eq_getElem->Ù,length_eq_zero_iff->Ú,cons_append->Ý,length_drop->Α,nil_append->Β,map_nil->Γ,nodup_nil->Ζ,take_take->Η,getElem?_map->Θ,map_cons->Μ,sum_replicate_nat->Ξ,getElem?_eq_none->Ρ,replicate->Χ,length_flatMap->ζ,map_congr_left->η,mem_cons->ν,mem_singleton->ξ,set_cons_succ->ο,flatMap_cons->π,ext_getElem?->σ,nodup_append->τ,size_toArray->υ,mem_flatMap->φ,length_cons->χ,map_const'->ψ,length_map->ω,drop_left'->ϊ,contains->ό
open Nat renaming mul_le_mul_right->Â,le_refl->È,le_of_ble_eq_true->É,min_eq_left->Ò,ble->Û,eq_of_mul_eq_mul_right->Ε,mul_one->Ι,zero_add->Ν,testBit->Τ,zero_le->Υ,add_mul->Ω,sub_mul->ε,sub_zero->ϗ,min->Ϣ
open Go.Builtin renaming zeroCells->Ä,clear_->ϋ,copy_->ώ,firstCells->ϛ,lenOf->Ϡ
open Option.some renaming inj->Æ
open Array renaming length_toList->Ë,getElem?_eq_getElem->Ö,getElem?_toList->Ü,size_append->Λ,getElem?_mapIdx->Ο,mem_toList_iff->Ψ,toList_append->κ
open Go.Lib renaming index->Î,indexByte->ύ,index_ge->Ϗ,splitK->ϙ,countB->Ϛ
open Go.Sort renaming ahead->Ï
open Go.Program renaming closureVia->Δ,unfollowed->Ϙ,varsNamed->Ϝ,recurses->ϝ,inPlace->ϟ,goes->ϡ
open Int renaming toNat_natCast->Κ,toNat_of_nonneg->ι,toNat->Ϟ
open Go.IntKind renaming i64->Φ
open Bool renaming true->å,false->ä
open Option renaming some->ã,none->â
open Decidable renaming decide->á
open Go.IntKind renaming i64->ß
namespace Go.Ev
open Go
def qa (P:Program):Nat->List FuncId->Nat->List FuncId->List FuncId
 |0,_,_,seen=>seen.reverse
 |_+1,[],_,seen=>seen.reverse
 |n+1,f::todo,m,seen=>cond (Τ m f) (qa P n todo m seen)
  (match m |||1 <<<f with
   |0=>qa P n ((P.funcs[f]?).elim [] P.leadsTo++todo) 0 (f::seen)
   |k+1=>qa P n ((P.funcs[f]?).elim [] P.leadsTo++todo) (k+1) (f::seen))
theorem Bd {P:Program}: ∀(n:Nat) (todo:List FuncId) (m:Nat) (seen:List FuncId),(∀g:Nat,ό seen g=Τ m g)->P.closureVia n todo seen=qa P n todo m seen
 |0,_,_,_,_=>by simp [Δ,qa]
 |n+1,[],_,_,_=>by simp [Δ,qa]
 |n+1,f::todo,m,seen,h=>by
  simp only [Δ,qa];rw [h f];cases d:Τ m f with
  |true=>simp only [if_true,Y];exact Bd n todo m seen h
  |false=>
   simp only [Bool.false_eq_true,if_false,ez];have k: ∀g:Nat,ό (f::seen) g=Τ (m |||1 <<<f) g:=by
    intro g;rw [List.contains_cons,h g,Nat.testBit_or,Nat.one_shiftLeft,Nat.testBit_two_pow];by_cases e:g=f
    .subst e;simp
    .have b: ¬f=g:=fun x=>e x.symm
     simp [e,b]
   generalize m |||1 <<<f=q at k
   cases q with
   |zero=>exact Bd n _ 0 _ k
   |succ q=>exact Bd n _ (q+1) _ k
def oy (P:Program) (f:FuncId):List FuncId:=qa P (1+(P.funcs.toList.map fun g=>(P.leadsTo g).length+1).sum) [f] 0 []
theorem tM (P:Program) (f:FuncId):P.closure f=oy P f:=Bd _ _ _ _ fun g=>Ż
def wW (P:Program) (f:FuncId):Bool:=(oy P f).any fun g=>(P.funcs[g]?).any fun fn=>match fn.body with|some c=>c.unfollowed|none=>entryCalls fn
theorem Be (P:Program) (f:FuncId):P.unfollowed f=wW P f:=by
 unfold Ϙ wW;rw [tM];rfl
def Ip (P:Program) (f:FuncId):Bool:=((oy P f).any fun g=>(P.funcs[g]?).any Func.goes)||(wW P f&&P.funcs.any Func.goes)
theorem ajH (P:Program) (f:FuncId):P.goes f=Ip P f:=by
 unfold ϡ Ip;rw [tM,Be]
def ea (P:Program) (f:FuncId):Bool:=wW P f||(oy P f).any fun g=>((P.funcs[g]?).elim [] P.leadsTo).any fun h=>(oy P h).contains g
theorem ajI (P:Program) (f:FuncId):P.recurses f=ea P f:=by
 unfold ϝ ea;rw [Be,tM];simp only [tM]
def Iq (P:Program) (f:FuncId):List String:=(oy P f).filterMap fun g=>(P.funcs[g]?).bind fun fn=>if fn.ours||fn.body.isNone||fn.name== "runtime.NumGoroutine" then ã fn.name else â
theorem ajJ (P:Program) (f:FuncId):P.inPlace f=Iq P f:=by
 unfold ϟ Iq;rw [tM]
def Ir (P:Program) (f:FuncId):List String:=
 ((((oy P f).flatMap fun g=>((P.funcs[g]?).bind (·.body)).elim [] Code.globalsNamed).eraseDups).filterMap (fun g=>(P.globals[g]?).map (·.name))++
  (oy P f).filterMap fun g=>(P.funcs[g]?).bind fun fn=>if fn.body.isNone then entryReads.lookup fn.name else â).eraseDups
theorem ajK (P:Program) (f:FuncId):P.varsNamed f=Ir P f:=by
 unfold Ϝ Ir;rw [tM]
theorem ajL {P:Program} (h:P.funcs.any Func.goes=ä) (f:FuncId):P.goes f=ä:=by
 rw [ajH,Ip,h,Bool.and_false,Bool.or_false,List.any_eq_false];intro g _;cases e:P.funcs[g]? with
 |none=>simp
 |some fn=>
  rw [Array.any_eq_false]at h;obtain⟨hi,rfl⟩:=Array.getElem?_eq_some_iff.1 e
  simpa using h g hi
end Go.Ev
namespace Go.Ev
open Go.WideShapes Go.RowKit
structure mh where
 t:TypeId
 agg:Bool
 bu:List CT
def mh.kv (p:mh):bg:=match p.agg,p.bu with
 |false,[c]=>.one (nh c)
 |_,bu=>.agg (bu.map nh)
def mh.sh (p:mh) (v:Value):Prop:=match p.agg,p.bu with
 |false,[_]=>v.cells= #[v]
 |_,_=> ∃arr,v=.agg arr
theorem Tp: ∀ {a b:List bf},bf.fit.fits a->bf.fit.fits b->bf.fit.fits (a++b)
 | [],_,_,h=>h
 |d::a,b,h,k=>by
  simp only [Ý,bf.fit.fits]at h |-;exact⟨h.1,Tp h.2 k⟩
theorem Typed.app: ∀ {a b:List CT} {x y:List DV},Typed a x->Typed b y->Typed (a++b) (x++y)
 | [],_,_,_,h,k=>by
  simp only [Typed]at h;subst h;exact k
 |c::a,b,_,y,h,k=>by
  simp only [Typed]at h;obtain⟨x,r,rfl,h⟩:=h;simp only [Ý,Typed];exact⟨x,r++y,rfl,Typed.app h k⟩
section
variable {T:Type} {en:TypeId×Value→T} {P:Program} {w:World} {sp:Nat→Bool} {held:Bool} {S:List (TypeId×List CT)}
theorem ajM (r:pT S P S=å) (p:mh) (hm:jo S p.t p.bu=å) {v:Value} {d:DataW T} {s:List MemPlace} (g:p.sh v) (h:DataW.Trod en P w 0 sp held p.t v d s):
  ∃ds,Typed p.bu ds/\bf.fit.fits (ds.map fun d=>enc d.c d.x)/\ ∀nm,bU (hp w) (ng w) (eP fun b=>b) å [] nm p.kv ds v []:=by
 obtain⟨fuel,u⟩:=h;obtain⟨ds,k,i⟩:=HB r (fuel+1) p.t p.bu (HA hm) fuel _ _ (Nat.lt_succ_self _) u;refine⟨ds,k,az.fits i,fun nm=> ?_⟩
 have f: ∀arr,v=.agg arr->bU (hp w) (ng w) (eP fun b=>b) å [] nm (.agg (p.bu.map nh)) ds v []:=by
  rintro arr rfl
  simp only [bU];exact⟨arr,rfl,HC k i⟩
 obtain⟨t,agg,bu⟩:=p;cases agg with
 |true=>
  obtain⟨arr,e⟩:=(show ∃arr,v=.agg arr from g)
  exact f arr e
 |false=>
  match bu with
  | []=>
   obtain⟨arr,e⟩:=(show ∃arr,v=.agg arr from g)
   exact f arr e
  |c::c2::cs=>
   obtain⟨arr,e⟩:=(show ∃arr,v=.agg arr from g)
   exact f arr e
  | [c]=>
   have z:v.cells= #[v]:=g;rw [z]at i;have m:=HC (B:=eP fun b=>b) (nm:=nm) (j:=0) k i
   simp only [Μ,Γ,bq]at m;obtain⟨v',ae,d1,d2,A1,A2,q,e2,e3,ho,hk,rfl,rfl,rfl⟩:=m;obtain⟨rfl, -⟩:=List.append_eq_nil_iff.1 e3.symm;rw [Ð]at q;subst q;obtain rfl:v=v':=by simpa using e2
   show bU (hp w) (ng w) (eP fun b=>b) å [] nm (.one (nh c)) ds v []
   simp only [bU];exact⟨.inr ho,hk⟩
def rL:List mh->List Value->Prop
 | [],[]=>True
 |p::l,v::vs=>p.sh v/\rL l vs
 |_,_=>False
theorem Tq (k:pT S P S=å): ∀(l:List mh),(l.all fun p=>jo S p.t p.bu)=å-> ∀(vs:List Value) (d:List (DataW T)) (m:List MemPlace),rL l vs->DataW.TrodAll en P w 0 sp held (l.map (·.t)) vs d m->
  ∃ds,Typed (l.flatMap (·.bu)) ds/\bf.fit.fits (ds.map fun d=>enc d.c d.x)/\ ∀(val:Nat->Value) (j:Nat),(∀i,val (j+i)=vs.getD i undef)->eJ (hp w) (ng w) (eP fun b=>b) å val [] (jk j (l.map mh.kv)) ds []
 | [],_,[],_,_,_,_=>⟨[],rfl,by simp [bf.fit.fits],fun val j _=>by simp [jk,eJ]⟩
 |p::l,hm,v::vs,d::g,m,f,h=>by
  simp only [List.all_cons,Bool.and_eq_true]at hm;obtain⟨p1,u,z,h2, -⟩:=h;obtain⟨q,a1,a2,a3⟩:=ajM k p hm.1 f.1 z;obtain⟨r,b1,b2,b3⟩:=Tq k l hm.2 vs g u f.2 h2;refine⟨q++r,by rw [π];exact Typed.app a1 b1,by rw [List.map_append];exact Tp a2 b2,fun val j s=> ?_⟩
  simp only [Μ,jk,eJ];have e0:val j=v:=by
   have:=s 0;simpa using this
  refine⟨q,r,[],[],rfl,rfl,by rw [e0];exact a3 _, ?_⟩
  rw [Ð];refine b3 val (j+1) fun i=> ?_
  have:=s (i+1);rw [show j+1+i=j+(i+1) by omega,this]
  simp
 |_::_,_,[],_,_,h,_=>absurd h (by simp [rL])
 |_::_,_,_::_,[],_,_,h=>absurd h (by simp [DataW.TrodAll])
 | [],_,_::_,_,_,h,_=>absurd h (by simp [rL])
theorem ajN (k:pT S P S=å) {l:List mh} (hm:(l.all fun p=>jo S p.t p.bu)=å) {args:Array Value} {d:List (DataW T)} {j:List MemPlace} (g:rL l args.toList) (h:DataW.TrodAll en P w 0 sp held (l.map (·.t)) args.toList d j):
  ∃ds,Typed (l.flatMap (·.bu)) ds/\bf.fit.fits (ds.map fun d=>enc d.c d.x)/\
   ∀(E:Entry) (gl:bA),E.ins=l.map mh.kv->E.bx=[]->gl.n<=w.heap.size->(∀b,b<gl.n->hp w b=hp gl.w b)->
    rB gl E w (fun _=>False) (ng w) (fun b=>b) (fun i=>args.getD i undef) [] ds [] []:=by
 obtain⟨ds,m,q,r⟩:=Tq k l hm args.toList d j g h;refine⟨ds,m,q,fun E gl s f u z=>⟨?_, ?_, ?_, ?_,fun b f=>⟨f,fun h=>h⟩,⟨u,fun b f=>⟨fun h=>h,z b f⟩⟩⟩⟩
 .rw [f];simp [bY]
 .rw [s]
  refine r _ 0 fun i=> ?_
  rw [Ν];simp [List.getD_eq_getElem?_getD,Array.getD_eq_getD_getElem?]
 .rw [f];simp [Env.fps]
 .rw [f];simp [Env.fps]
theorem ajO {gl:bA} {E:Entry} {args:Array Value} {ds:List DV} {r:bK E.bz} (s:cR P gl E ds r) (g:E.outs=.one .bool) (p:E.bx=[]) (d:(E.back,E.lj)=(â,ä)) (t:lg E.bz r=[⟨.bool,å⟩]) (j:args.size=E.ins.length)
  (q:rB gl E w (fun _=>False) (ng w) (fun b=>b) (fun i=>args.getD i undef) [] ds [] []):
  Calls P E.f args w fun e w'=>e=.returned (.bool å)/\Below w.heap.size w w':=by
 refine(s w (fun _=>False) (ng w) (fun b=>b) args [] ds [] [] rfl j q).mono fun e w' h=> ?_
 cases e with
 |panicked _=>exact h.elim
 |outgrown=>exact h.elim
 |returned u=>
  simp only [Prod.mk.injEq]at d;simp only [d.1,d.2]at h;obtain⟨z,h2,h3,h4,h5,d1,A1,d2,A2,m,k1,k2, -, -⟩:=h;refine⟨?_,h3,h4,h5,z,fun k hk=>h2 k hk (fun h=>h)⟩
  rw [p]at k2;simp only [dF,bY]at k2;obtain⟨rfl,rfl⟩:=k2;rw [g]at k1;simp only [bU,ax]at k1;obtain⟨-,x,hx,hu, -⟩:=k1;rw [t,Ð]at m;rw [hx]at m;simp only [List.cons.injEq,and_true]at m;have:x=å:=by
   injection m with _ e2
   exact e2.symm
  rw [hu,this]
end
end Go.Ev
namespace Go.Ev
open Go
open Go.RowKit (Below)
def Is:CT->Bool
 |.sl _=>ä
 |.tree _=>ä
 |_=>å
def qb:aR->Bool
 |.one c=>Is c
 |.cons c cs=>Is c&&qb cs
def qc:bf->Bool
 |.l _ _=>ä
 |_=>å
theorem Ts {c:CT} (h:Is c=å) (x:Interp c):qc (enc c x)=å:=by
 cases c<;>first|rfl|cases h
theorem It: ∀ {ts:aR},qb ts=å-> ∀(x:bc ts),∀d∈bI ts x,qc d=å
 |.one c,h,x,d,hd=>by
  simp only [bI,ξ]at hd;subst hd;exact Ts h x
 |.cons c cs,h,x,d,hd=>by
  simp only [qb,Bool.and_eq_true]at h;simp only [bI,ν]at hd;rcases hd with rfl|hd
  .exact Ts h.1 x.1
  .exact It h.2 x.2 d hd
theorem aE.flat {H H':Heap} {R R':Nat->Prop} {own own':Bool} {d:bf} {v:Value} {fp:List Nat} (hd:qc d=å) (h:aE H R own d v fp):fp=[]/\aE H' R' own' d v []:=by
 cases d with
 |b x=>simp only [aE]at h |-;exact⟨h.2,h.1,trivial⟩
 |i k n=>simp only [aE]at h |-;exact⟨h.2.2,h.1,h.2.1,trivial⟩
 |s x=>simp only [aE]at h |-;exact⟨h.2.2,h.1,h.2.1,trivial⟩
 |l sz cs=>cases hd
theorem az.flat {H H':Heap} {R R':Nat->Prop} {own own':Bool}: ∀ {ds:List bf} {vs:List Value} {fp:List Nat},(∀d∈ds,qc d=å)->az H R own ds vs fp->fp=[]/\az H' R' own' ds vs []
 | [],vs,fp,_,h=>by simp only [az]at h |-;exact⟨h.2,h.1,trivial⟩
 |d::ds,vs,fp,f,h=>by
  simp only [az]at h |-;obtain⟨v,b,f1,f2,rfl,rfl,g,i⟩:=h;obtain⟨rfl,k1⟩:=aE.flat (H':=H') (R':=R') (own':=own') (f d Ż) g
  obtain⟨rfl,k2⟩:=az.flat (H':=H') (R':=R') (own':=own') (fun x j=>f x ĥ) i
  exact⟨rfl,v,b,[],[],rfl,rfl,k1,k2⟩
theorem Bf {v:Value} (h:Ev.cx v=å):v.oneCell'=å:=by cases v<;>first|rfl|cases h
theorem Iu {gl:bA} {E:Entry} {w:World} {F R:Nat->Prop} {bl:Nat->Nat} {args:Array Value} {dB dA:List DV} {AB AA:Env} {k1:CK} (b:E.ins=[.one k1]) (j:E.bx=[]) (g:args.size=E.ins.length)
  (h:rB gl E w F R bl (fun i=>args.getD i undef) dB dA AB AA): ∃a A1,args= #[a]/\dB=[]/\(∃nm,ax (hp w) R (eP bl) å [] nm k1 dA a A1)/\AA=A1/\AB=[]:=by
 rw [b]at g;obtain⟨a,rfl⟩:=HF g;have d:=h.kb;rw [j]at d;simp only [bY]at d;obtain⟨rfl,rfl⟩:=d;have f:=h.kt;rw [b]at f;simp only [jk,eJ,bU]at f;obtain⟨d1,d2,A1,A2,k,m,⟨-,p⟩,q,r⟩:=f;subst k m q r;exact⟨a,A1,rfl,rfl,⟨_,by rw [Ð];exact p⟩,Ż,rfl⟩
theorem Bg {P:Program} {gl:bA} {f:FuncId} {fn:Func} {ts:aR} {e:TypeId} (q:qb ts=å) (al: ∀x:Interp (.sl ts),eI [.sl ts] [⟨.sl ts,x⟩]=ã x)
  (ao: ∀(b off n c:Nat) (news:List Value) (w:World),news.length=n*ts.size->n<=big->(∀j u,news[j]? =ã u->w.cell? ⟨b,off+j,â⟩=ã u)->(∀u∈news,u.oneCell'=å)->
   Calls P f #[.slice (ã ⟨b,off,â⟩) n c] w fun r w'=> ∃k,r=.returned k/\w'.ownsRow w.heap.size e ts.size k n news/\Below w.heap.size w w')
  (aq: ∀(a:Addr) (c:Nat) (w:World),Calls P f #[.slice (ã a) 0 c] w fun r w'=> ∃k,r=.returned k/\w'.ownsRow w.heap.size e ts.size k 0 []/\Below w.heap.size w w')
  (ar: ∀(n c:Nat) (w:World),Calls P f #[.slice â n c] w fun r w'=>r=.returned (.slice â 0 0)/\w'=w)
  (ds:List DV) (r:bK [.sl ts]) (h:fI (.sl ts) ds=ã r):
  cR P gl {f:=f,fn:=fn,ins:=[.one (.sh (.sl ts))],bx:=[],outs:=.one (.own (.sl ts)),bH:=[],loops:=[],cH:=[],bz:=[.sl ts],bT:=ã (fI (.sl ts))} ds r:=by
 intro w F R bl args dB dA AB AA ag au av;obtain⟨a,A1,rfl,rfl,⟨nm,hk⟩,rfl,rfl⟩:=Iu (k1:=.sh (.sl ts)) rfl rfl au av;simp only [ax]at hk;obtain⟨x,rfl, -,i,rfl⟩:=hk;simp only [Β]at ag;subst ag;have h':cond (Û (Ô (α:=bc ts) x) big) (ã x) â=ã r:=by
  unfold fI at h;rw [al x]at h;exact h
 cases hl:Û (Ô (α:=bc ts) x) big with
 |false=>rw [hl]at h';cases h'
 |true=>
  rw [hl]at h';have s:x=r:=Æ h';subst s;have hl:=É hl;have t:(Õ (bI ts) (x:List (bc ts))).length=Ô (α:=bc ts) x*ts.size:=by
   rw [ζ,η (g:=fun _=>ts.size) (fun x _=>wA ts x),ψ,Ξ]
  have aw: ∀d∈Õ (bI ts) (x:List (bc ts)),qc d=å:=fun d hd=>by
   obtain⟨y, -,hy⟩:=φ.1 hd;exact It q y d hy
  simp only [enc,aE]at i;obtain⟨ad,len,cap,rfl,h0,h1,h2,h3,i⟩:=i;have hlen:len=Ô (α:=bc ts) x:=Ε h0 (h1.symm.trans t);have fin: ∀ {k:Value} {w':World} {news:List Value},w'.ownsRow w.heap.size e ts.size k len news->Below w.heap.size w w'->az (hp w') R å (Õ (bI ts) (x:List (bc ts))) news []->
    jP {f:=f,fn:=fn,ins:=[.one (.sh (.sl ts))],bx:=[],outs:=.one (.own (.sl ts)),bH:=[],loops:=[],cH:=[],bz:=[.sl ts],bT:=ã (fI (.sl ts))} w w' F R bl x k:=by
   intro k w' news ah m z;have mk: ∀fp:List Nat,aE (hp w') R å (enc (.sl ts) x) k fp->fp.Nodup->(∀b∈fp,w.heap.size<=b)->Ev.cx k=å->
     jP {f:=f,fn:=fn,ins:=[.one (.sh (.sl ts))],bx:=[],outs:=.one (.own (.sl ts)),bH:=[],loops:=[],cH:=[],bz:=[.sl ts],bT:=ã (fI (.sl ts))} w w' F R bl x k:=by
    intro fp s a6 p h1;refine⟨m.size,fun b p _=>m.block b p,m.os,m.tape,m.output,[⟨.sl ts,x⟩],[(ft 9000 0,k,fp)],[],[],rfl, ?_,Ē,by simpa [Env.fps]using a6,fun b a7=>.inr (p b (by simpa [Env.fps]using a7))⟩
    simp only [bU,ax];exact⟨.inr h1,x,fp,rfl,rfl,s,rfl⟩
   obtain⟨o1,o2⟩:=ah;rcases o2 with⟨rfl,a8⟩|⟨g,ai,cur,rfl,p,hg,hle,bd,bf,bg⟩
   .refine mk [] ?_ Ζ Ż rfl
    simp only [enc,aE];exact⟨â,0,0,rfl,h0,by rw [t,<-hlen,a8],È _,ñ,.inl ⟨trivial,.inl ⟨rfl,trivial⟩⟩⟩
   .refine mk [g] ?_ Ż (by simpa using p) rfl
    simp only [enc,aE];exact⟨_,len,ai,rfl,h0,by rw [t,<-hlen],hle,bd,.inl ⟨trivial,.inr ⟨g,cur,e,(0,0),[],rfl,hg,bf,pM _ _,rfl,by rw [bg];exact z⟩⟩⟩
  rcases i with⟨hf, -⟩|⟨-, -,i⟩
  .cases hf
  have zero:Õ (bI ts) (x:List (bc ts))=[]->len=0:=fun e0=>by
   rw [e0,List.length_nil]at h1;rcases Nat.mul_eq_zero.1 h1.symm with h|h
   .exact h
   .omega
  cases ad with
  |none=>
   have e0:Õ (bI ts) (x:List (bc ts))=[]:=by
    rcases i with h|⟨g,off,cur,ty,frz,ha, -⟩
    .exact h
    .cases ha
   have hz:=zero e0;subst hz;refine(ar 0 cap w).mono ?_
   rintro rr w' ⟨rfl,rfl⟩
   exact fin (World.ownsRow_nil w' _ e ts.size) (Below.refl _ _) (by rw [e0];simp [az])
  |some ad=>
   rcases i with e0|⟨g,off,cur,ty,frz,ha,bq,hg,bn,s⟩
   .have hz:=zero e0
    subst hz;refine(aq ad cap w).mono ?_
    rintro rr w' ⟨k,rfl,ho,p⟩
    exact fin ho p (by rw [e0];simp [az])
   .cases ha
    have hk:=az.length s;refine(ao g off len cap ((cur.toList.drop off).take (len*ts.size)) w (by rw [<-hk,h1]) ž ?_ (fun u hu=>Bf (az.cx s u hu))).mono ?_
    .intro j u hu
     rw [Ñ]at hu
     split at hu
     .rw [List.getElem?_drop]at hu
      rw [cell_of_row w g (off+j) cur ty frz hg];simpa using hu
     .cases hu
    .rintro rr w' ⟨k,rfl,ho,p⟩
     exact fin ho p (az.flat aw s).2
end Go.Ev
namespace Go.Ev
open Go
theorem ajP {P:Program} {gl:bA} {f:FuncId} {fn:Func}
  (u: ∀(x y:Nat) (w:World),x<18446744073709551616->y<18446744073709551616->Calls P f #[.int .u64 x,.int .u64 y] w fun e w'=>e=.returned (.tuple #[.int .u64 ((x*y/18446744073709551616:Nat):Int),.int .u64 ((x*y%18446744073709551616:Nat):Int)])/\w'=w)
  (ds:List DV) (r:bK [.int .u64,.int .u64]) (h:primMul64 ds=ã r):
  cR P gl {f:=f,fn:=fn,ins:=[.one (.int .u64),.one (.int .u64)],bx:=[],outs:=.aM [.one (.int .u64),.one (.int .u64)],bH:=[],loops:=[],cH:=[],bz:=[.int .u64,.int .u64],bT:=ã primMul64} ds r:=by
 intro w F R bl args dB dA AB AA d q s;obtain⟨a,b,d1,d2,A1,A2,rfl,z,⟨ad,i⟩,ae,j⟩:=wE (k1:=.int .u64) (k2:=.int .u64) rfl rfl q s;rw [z]at d;subst d;simp only [ax]at i j;obtain⟨x,rfl,rfl,g, -⟩:=i;obtain⟨y,rfl,rfl,hy, -⟩:=j;have g:0<=(show Int from x)/\(show Int from x)<=18446744073709551615:=g;have hy:0<=(show Int from y)/\(show Int from y)<=18446744073709551615:=hy;obtain⟨m,hm⟩: ∃m:Nat,x=(show qK .u64 from(m:Int)):=⟨(show Int from x).toNat,(ι g.1).symm⟩
 obtain⟨k,hk⟩: ∃k:Nat,y=(show qK .u64 from(k:Int)):=⟨(show Int from y).toNat,(ι hy.1).symm⟩
 subst hm hk;have h':ã (((m:Int)*(k:Int))/18446744073709551616,((m:Int)*(k:Int))%18446744073709551616)=ã r:=h;have p:=(Æ h').symm;have hmul:(m:Int)*(k:Int)=((m*k:Nat):Int):=(Int.natCast_mul m k).symm;rw [hmul]at p;have g:0<=(m:Int)/\(m:Int)<=18446744073709551615:=g;have hy:0<=(k:Int)/\(k:Int)<=18446744073709551615:=hy;have t:m*k<340282366920938463463374607431768211456:=by
  have i:m<=18446744073709551615:=ž
  have j:k<=18446744073709551615:=ž
  have:=Nat.mul_le_mul i j;omega
 refine(u m k w ž ž).mono ?_
 rintro e w' ⟨rfl,rfl⟩
 refine tz rfl ?_
 generalize m*k=c at t p
 have e1:((c:Nat):Int)/18446744073709551616=((c/18446744073709551616:Nat):Int):=ž
 have e2:((c:Nat):Int)%18446744073709551616=((c%18446744073709551616:Nat):Int):=ž
 rw [e1,e2]at p;subst p;simp only [bU,cp,ax];refine⟨_,rfl,_,_,[⟨.int .u64,((c/18446744073709551616:Nat):Int)⟩],[⟨.int .u64,((c%18446744073709551616:Nat):Int)⟩],[],[],rfl,rfl,rfl,.inr rfl,⟨((c/18446744073709551616:Nat):Int),rfl,rfl,⟨?_, ?_⟩,rfl⟩,_,_,[⟨.int .u64,((c%18446744073709551616:Nat):Int)⟩],[],[],[],rfl,rfl,rfl,.inr rfl,⟨((c%18446744073709551616:Nat):Int),rfl,rfl,⟨?_, ?_⟩,rfl⟩,rfl,rfl,rfl⟩
 .show(0:Int)<=((c/18446744073709551616:Nat):Int);omega
 .show((c/18446744073709551616:Nat):Int)<=18446744073709551615;omega
 .show(0:Int)<=((c%18446744073709551616:Nat):Int);omega
 .show((c%18446744073709551616:Nat):Int)<=18446744073709551615;omega
def bA.some64 (gl:bA) (g:Nat):Prop:=g<gl.n/\ ∃m,gl.w.cell? ⟨g,0,â⟩=ã (.int ß m)
theorem bA.some64.at_ {gl:bA} {g:Nat} (h:gl.some64 g) {w:World} {F:Nat->Prop} (hw:pR gl w F): ∃m,w.cell? ⟨g,0,â⟩=ã (.int ß m):=by
 obtain⟨b,m,d⟩:=h;exact⟨m,(World.cell?_of_block (a:=⟨g,0,â⟩) (hw.at_ g b).2).trans d⟩
theorem Iv (t:O): ∀s:O,cI t s=Î s t
 | []=>by
  cases t<;>rfl
 |b::s=>by
  have ih:=Iv t s;have d:=Ϗ s t;unfold cI Î;rw [ih];cases hp:List.isPrefixOf t (b::s)with
  |true=>rfl
  |false=>
   simp only [ez,Bool.false_eq_true,if_false,beq_iff_eq];by_cases h:Î s t= -1
   .rw [if_pos h,hJ ž];rfl
   .rw [if_neg h,hC ž];rfl
theorem index_le: ∀(s t:List UInt8),Î s t<=s.length
 | [],t=>by unfold Î;cases t<;>simp
 |b::s,t=>by
  have:=index_le s t;unfold Î;simp only [χ];split
  .omega
  .split<;>omega
theorem ajQ {P:Program} {gl:bA} {f:FuncId} {fn:Func} {g:Nat} (z:gl.some64 g)
  (hc: ∀(s t:ByteArray) (m:Int) (w:World),s.size<4294967281->w.cell? ⟨g,0,â⟩=ã (.int ß m)->Calls P f #[.string s,.string t] w fun e w'=>e=.returned (.int ß (Î s.data.toList t.data.toList))/\w'=w)
  (ds:List DV) (r:bK [.int ß]) (h:AF ds=ã r):
  cR P gl {f:=f,fn:=fn,ins:=[.one .str,.one .str],bx:=[],outs:=.one (.int ß),bH:=[],loops:=[],cH:=[],bz:=[.int ß],bT:=ã AF} ds r:=by
 intro w F R bl args dB dA AB AA d p i;obtain⟨a,b,d1,d2,A1,A2,rfl,e0,⟨af,q⟩,ag,u⟩:=wE (k1:=.str) (k2:=.str) rfl rfl p i;rw [e0]at d;subst d;simp only [ax]at q u;obtain⟨x,rfl,rfl,hx, -⟩:=q;obtain⟨c,rfl,rfl,hb, -⟩:=u;have j:cond (Û (Ô (α:=UInt8) x) 4000000000) (ã (cI (c:O) (x:O))) â=ã r:=h;cases k:Û (Ô (α:=UInt8) x) 4000000000 with
 |false=>rw [k]at j;cases j
 |true=>
  rw [k]at j;have hr:r=cI (c:O) (x:O):=(Æ j).symm;subst hr;have k:=É k;obtain⟨m,hm⟩:=z.at_ i.gl;refine(hc ⟨(x:O).toArray⟩ ⟨(c:O).toArray⟩ m w ĭ hm).mono ?_
  rintro e w' ⟨rfl,rfl⟩
  refine tz rfl ?_
  rw [Iv];have b1:=Ϗ (x:O) (c:O);have b2:=index_le (x:O) (c:O);simp only [bU,ax];refine⟨.inr rfl,_,rfl,rfl,⟨?_, ?_⟩,trivial⟩
  .show -9223372036854775808<=Î (x:O) (c:O);omega
  .show Î (x:O) (c:O)<=9223372036854775807;omega
theorem ajR (s t:O) (r:Bool) (h:HJ s t=ã r):(∃c,t=[c]/\r=á (0<=ύ s c))\/(s.length<=4000000000/\r=á (0<=cI t s)):=by
 have big: ∀t:O,cond (Û (Ô (α:=UInt8) s) 4000000000) (ã (á (0<=cI t s))) â=ã r->s.length<=4000000000/\r=á (0<=cI t s):=fun t h=>by
  cases d:Û (Ô (α:=UInt8) s) 4000000000 with
  |false=>rw [d]at h;cases h
  |true=>
   rw [d]at h;exact⟨É d,(Æ h).symm⟩
 match t,h with
 | [c],h=>exact .inl ⟨c,rfl,(Æ h).symm⟩
 | [],h=>exact .inr (big [] h)
 |a::b::t,h=>exact .inr (big (a::b::t) h)
theorem ajS {P:Program} {gl:bA} {f:FuncId} {fn:Func} {g:Nat} (hg:gl.some64 g)
  (j: ∀(s:ByteArray) (c:UInt8) (w:World),Calls P f #[.string s,.string ⟨#[c]⟩] w fun e w'=>e=.returned (.bool (á (0<=ύ s.data.toList c)))/\w'=w)
  (hc: ∀(s t:ByteArray) (m:Int) (w:World),s.size<4294967281->w.cell? ⟨g,0,â⟩=ã (.int ß m)->Calls P f #[.string s,.string t] w fun e w'=>e=.returned (.bool (Lib.contains s.data.toList t.data.toList))/\w'=w)
  (ds:List DV) (r:bK [.bool]) (h:AG ds=ã r):
  cR P gl {f:=f,fn:=fn,ins:=[.one .str,.one .str],bx:=[],outs:=.one .bool,bH:=[],loops:=[],cH:=[],bz:=[.bool],bT:=ã AG} ds r:=by
 intro w F R bl args dB dA AB AA d k i;obtain⟨a,b,d1,d2,A1,A2,rfl,e0,⟨ag,u⟩,ah,z⟩:=wE (k1:=.str) (k2:=.str) rfl rfl k i;rw [e0]at d;subst d;simp only [ax]at u z;obtain⟨x,rfl,rfl,hx, -⟩:=u;obtain⟨s,rfl,rfl,hb, -⟩:=z;have h':HJ (x:O) (s:O)=ã r:=h;rcases ajR _ _ _ h' with⟨c,hs,p⟩|⟨hl,p⟩
 .subst p
  have q:s=[c]:=hs;subst q;refine(j ⟨(x:O).toArray⟩ c w).mono ?_
  rintro e w' ⟨rfl,rfl⟩
  refine tz rfl ?_
  simp only [bU,ax];exact⟨.inr rfl,_,rfl,rfl,trivial⟩
 .subst p
  obtain⟨m,hm⟩:=hg.at_ i.gl;refine(hc ⟨(x:O).toArray⟩ ⟨(s:O).toArray⟩ m w ĭ hm).mono ?_
  rintro e w' ⟨rfl,rfl⟩
  refine tz rfl ?_
  rw [Iv];simp only [bU,ax];exact⟨.inr rfl,_,rfl,rfl,trivial⟩
end Go.Ev
namespace Go
variable {H:Type} {enc:TypeId×Value→H}
theorem ajT {a:Assume} {C:Checked} {os:Os} {f:FuncId} {fn:Func} {s:ChangeSpec} {conds:List PathCond} {apart fresh handsOn again:Bool} {X:World->Array Value->Prop}
  (hX: ∀(w w':World) (args:Array Value),w.heap=w'.heap->X w args->X w' args)
  (own:ownKnob C.prog.godebug=â) (started:os.Started) (d:C.prog.inits.idxOf? f=â) (p:C.prog.funcs[f]? =ã fn)
  (witness: ∃(w:World) (tape:Tape) (i:Input),w.os=os/\(w.forCall tape i).Shaped C.prog/\i.vars=[]/\Input.okWide C.prog (w.forCall tape i) .any w.heap.size f i/\
   ((s.pre enc C.prog fn conds apart (w.forCall tape i).memory i.args/\X (w.forCall tape i).memory i.args)/\sizedMet enc C.prog fn (OpenSpec.ofChange s) apart (w.forCall tape i).memory i.args)/\a.holds C.prog (lone (Frame.enter C.prog f i.args .normal) [] (w.forCall tape i)))
  (b: ∀(W:World) (base:Nat) (args:Array Value) (ds gs:List (DataW H)) (before:List MemPlace),W.ShapedOpen C.prog->
   (∀(j:Nat) t v,fn.params[j]? =ã t->args[j]? =ã v->Value.okWide C.prog W .any base t v)->
   DataW.Whole enc C.prog fn.params.toList s.vars apart W args.toList ds gs before->
   conds.all (PathCond.test C.prog ⟨fn.params.toList,ds,s.plain.varTypes C.prog,gs⟩)=å->
   (DataW.weightsEach C.prog (fn.params.toList++s.plain.varTypes C.prog) (ds++gs)).all (·<=reachBytes)=å->X W args->
   a.holds C.prog (lone (Frame.enter C.prog f args .normal) [] W)->
   Calls C.prog f args W fun e W'=> ∃v,e=.returned v/\s.post enc C.prog fn apart fresh handsOn again W args v W'):
  ReturnsInHanded a C os f .any (fun w args=>(s.pre enc C.prog fn conds apart w args/\X w args)/\sizedMet enc C.prog fn (OpenSpec.ofChange s) apart w args) (s.post enc C.prog fn apart fresh handsOn again):=by
 refine returnsInHanded_of_calls own started d witness ?_
 intro w tape i _ q _ r h g;obtain⟨_,_,_,u,k,_,_,_,_,m⟩:=r;have e:u=fn:=Æ (k.symm.trans p);subst e;obtain⟨⟨⟨ds,gs,before,hw,hc⟩,hx⟩,hz⟩:=h;have z:=DataW.Whole.of_heap (w':=w.forCall tape i) (by rfl) hw
 refine(b (w.forCall tape i) w.heap.size i.args ds gs before q m z hc (hz.weights hw) (hX _ _ _ (by rfl) hx) g).mono fun e W' ⟨v,he,hp⟩=> ?_
 subst he;exact ChangeSpec.post_blind hp
end Go
namespace Go.Ev
open Go
theorem ajU {P:Program} {g:Nat} {t:TypeId} {W:World} (h:W.ShapedOpen P) (b:g<P.globals.size) (d:((begin P (fun _ _=>0) default).world.heap[g]?).bind Obj.row? =ã (#[.int ß 0],t))
  (f:P.buildable t=å) (i:P.cellTypes P.depth t=ã [t]) (hu:P.underlying t=ã (.int ß)):(bA.mk W.heap.size W).some64 g:=by
 obtain⟨m,hm⟩:=Go.Proofs.cell_of_shapedOpen_int h b d rfl f i hu;exact⟨World.block_lt_of_cell? W _ hm,m,hm⟩
theorem df.app {P:Program} {gl:bA} {l m:List Entry} (h:df P gl l) (k:df P gl m):df P gl (l++m):=⟨fun x b=>(List.mem_append.1 b).elim (h.ok x) (k.ok x)⟩
theorem df.all {P:Program} {gl:bA} {l:List Entry} (h:(l.all fun x=>x.bT.isNone)=å):df P gl l:=⟨fun x b p hp=>by
 have:=List.all_eq_true.1 h x b;rw [hp]at this;cases this⟩
end Go.Ev
namespace Go.Ev
open Go Go.Sort
theorem ajV (w:World) (os:Array Obj) {b:Nat} (h:b<w.heap.size):hp (grow w os) b=hp w b:=by
 show(w.heap++os)[b]? =w.heap[b]?;rw [Array.getElem?_append_left h]
theorem wX (w:World) (aQ:Nat) (f:Array Value->Array Value) (b:Nat):hp (mapBlock w aQ f) b=if aQ=b then(hp w b).map (onCells f)else hp w b:=by
 show(w.heap.modify aQ (onCells f))[b]? =_;rw [Array.getElem?_modify];rfl
theorem ajW (b:List Int) (c:Array Value) (h:b.length<=c.size):(putCells (Ó ß) 0 b.toArray c).toList.take b.length=b.map (Ó ß)/\(putCells (Ó ß) 0 b.toArray c).size=c.size:=by
 constructor
 .apply σ
  intro j;unfold putCells;rw [Ñ,Θ]
  by_cases hj:j<b.length
  .rw [if_pos hj,Ü,Ο,Ö ž,Ù hj]
   simp only [Option.map_some];rw [if_pos ⟨Υ _,ź⟩,ϗ,getElem!_pos b.toArray j Ŗ]
   simp
  .rw [if_neg hj,Ρ ž];rfl
 .unfold putCells;simp
theorem Tt {H:Heap} {R:Nat->Prop} {own:Bool}: ∀ {l:List Int} {vs:List Value} {fp:List Nat},az H R own (l.map fun n=>bf.i ß n) vs fp->vs=l.map (Ó ß)/\fp=[]/\ ∀n∈l,Φ.min<=n/\n<=Φ.max
 | [],vs,fp,h=>by
  simp only [Γ,az]at h;obtain⟨rfl,rfl⟩:=h;exact⟨rfl,rfl,Ż⟩
 |n::l,vs,fp,h=>by
  simp only [Μ,az,aE]at h;obtain⟨v,b,f1,f2,rfl,rfl,⟨rfl,d,rfl⟩,f⟩:=h;obtain⟨rfl,rfl,g⟩:=Tt f;refine⟨rfl,rfl,fun m hm=> ?_⟩
  rcases ν.1 hm with rfl|hm
  .exact d
  .exact g m hm
theorem Tv {H:Heap} {R:Nat->Prop} {own:Bool}: ∀ {l:List Int},(∀n∈l,Φ.min<=n/\n<=Φ.max)->az H R own (l.map fun n=>bf.i ß n) (l.map (Ó ß)) []
 | [],_=>by simp only [Γ,az];exact⟨trivial,trivial⟩
 |n::l,h=>by
  simp only [Μ,az,aE];exact⟨_,_,[],[],rfl,rfl,⟨rfl,h n Ż,rfl⟩,Tv fun m hm=>h m (by simp [hm])⟩
theorem Tw {α β:Type} (g:α->β) (l:List α):l.flatMap (fun n=>[g n])=l.map g:=by
 induction l with
 |nil=>rfl
 |cons a l ih=>rw [π,ih];rfl
theorem Tx (x:List Int):enc (.sl (.one (.int ß))) x=.l 1 (x.map fun n=>bf.i ß n):=by
 show bf.l 1 (Õ (fun n=>[bf.i ß n]) x)=_
 rw [Tw]
theorem ajX {P:Program} {gl:bA} {f:FuncId} {fn:Func}
  (hc: ∀(aQ cap:Nat) (zs:List Int) (w:World),Holds (Ó ß) w aQ 0 zs.toArray->aQ<w.heap.size->zs.length<4611686018427387904->
   Calls P f #[.slice (ã ⟨aQ,0,â⟩) zs.length cap] w fun e w'=>e=.returned (.tuple #[])/\ ∃n os,w'=grow (putRow (Ó ß) (Ï w n) aQ 0 (zs.mergeSort fun x y=>á (x<=y)).toArray) os)
  (au: ∀(p:Option Addr) (cap:Nat) (w:World),Calls P f #[.slice p 0 cap] w fun e w'=>e=.returned (.tuple #[])/\w'=w)
  (ds:List DV) (r:bK [.sl (.one (.int ß))]) (h:wH ds=ã r):
  cR P gl {f:=f,fn:=fn,ins:=[.one (.own (.sl (.one (.int ß))))],bx:=[],outs:=.one (.own (.sl (.one (.int ß)))),bH:=[],loops:=[],cH:=[],bz:=[.sl (.one (.int ß))],bT:=ã wH,back:=ã 0} ds r:=by
 intro w F R bl args dB dA AB AA u q s;obtain⟨a,A1,rfl,rfl,⟨nm,hk⟩,rfl,rfl⟩:=Iu (k1:=.own (.sl (.one (.int ß)))) rfl rfl q s;simp only [ax]at hk;obtain⟨x,fp,rfl, -,d,rfl⟩:=hk;simp only [Β]at u;subst u;obtain⟨x,hx⟩: ∃y:List Int,y=x:=⟨x,rfl⟩
 subst hx;have z:cond (Û x.length big) (ã (kH x)) â=ã r:=h;cases hl:Û x.length big with
 |false=>rw [hl]at z;cases z
 |true=>
  rw [hl]at z;have hr:r=kH x:=(Æ z).symm;subst hr;have hl:=É hl;have af:=s.own;have hg:=s.gl;clear s h z q;rw [Tx]at d;simp only [aE]at d;obtain⟨ad,len,cap,rfl,h0,h1,h2,h3,d⟩:=d;have hlen:x.length=len:=by simpa using h1
  have fin: ∀ {w':World} {fp':List Nat},w.heap.size<=w'.heap.size->(∀b,b<w.heap.size-> ¬F b->hp w' b=hp w b)->w'.os=w.os->w'.tape=w.tape->w'.output=w.output->
    aE (hp w') R å (.l 1 ((kH x).map fun n=>bf.i ß n)) (.slice ad len cap) fp'->fp'.Nodup->(∀b∈fp',F b)->
    jP {f:=f,fn:=fn,ins:=[.one (.own (.sl (.one (.int ß))))],bx:=[],outs:=.one (.own (.sl (.one (.int ß)))),bH:=[],loops:=[],cH:=[],bz:=[.sl (.one (.int ß))],bT:=ã wH,back:=ã 0} w w' F R bl (kH x) (.slice ad len cap):=by
   intro w' fp' k1 k2 k3 k4 k5 k6 k7 k8;refine⟨k1,k2,k3,k4,k5,[⟨.sl (.one (.int ß)),kH x⟩],[(ft 9000 0,.slice ad len cap,fp')],[],[],rfl, ?_,Ē,by simpa [Env.fps]using k7,fun b t=>.inl (k8 b (by simpa [Env.fps]using t))⟩
   simp only [bU,ax];exact⟨.inr rfl,_,fp',rfl,rfl,by rw [Tx];exact k6,rfl⟩
  rcases d with⟨-,⟨rfl,rfl⟩|⟨g,cur,ty,frz,fps,rfl,k,q,hz,rfl,av⟩⟩|⟨hf, -⟩
  .have aw:len=0:=by omega
   subst aw;have ay:x=[]:=Ú.1 hlen;subst ay;refine(au ad 0 w).mono ?_
   rintro e w' ⟨rfl,rfl⟩
   refine⟨rfl,fin (È _) (fun _ _ _=>rfl) rfl rfl rfl ?_ Ζ Ż⟩
   simp only [kH,List.mergeSort_nil,Γ,aE];exact⟨ad,0,0,rfl,ž,rfl,È _,h3,.inl ⟨trivial,.inl ⟨rfl,trivial⟩⟩⟩
  .obtain⟨hv,rfl,t⟩:=Tt av
   rw [Ι]at hv q;have ah:F g:=af g Ĵ
   have ai:g<w.heap.size:=pF k;have az: ∀j,j<x.length->cur[j]? =ã (.int ß x[j]!):=fun j hj=>by
    have:=congrArg (fun l=>l[j]?) hv
    simp only [Ñ,Θ]at this
    rw [if_pos ž,Ù hj]at this
    rw [getElem!_pos x j hj,<-Ü]
    simpa using this
   have hH:Holds (Ó ß) w g 0 x.toArray:=fun j hj=>by
    have hj:j<x.length:=Ŗ
    rw [Ν];refine⟨?_,zO k hz.1 ž⟩
    rw [cell_of_row w g j cur ty frz k,az j hj];congr 2
    rw [getElem!_pos x j hj,getElem!_pos x.toArray j Ŗ];simp
   have aj:=hc g cap x w hH ai (by unfold big at hl;omega)
   rw [hlen]at aj;refine aj.mono ?_
   rintro e w' ⟨rfl,n,os,rfl⟩
   have ak:(putRow (Ó ß) (Ï w n) g 0 (x.mergeSort fun x y=>á (x<=y)).toArray).heap.size=w.heap.size:=by unfold putRow mapBlock;simp [Ï]
   have al: ∀b,b<w.heap.size->hp (grow (putRow (Ó ß) (Ï w n) g 0 (x.mergeSort fun x y=>á (x<=y)).toArray) os) b=if g=b then(hp w b).map (onCells (putCells (Ó ß) 0 (x.mergeSort fun x y=>á (x<=y)).toArray))else hp w b:=fun b t=>by
    rw [ajV _ _ (by rw [ak];exact t)]
    exact wX _ _ _ _
   refine⟨rfl,fin (by rw [size_grow,ak];omega) (fun b t hF=> ?_) rfl rfl rfl (fp':=[g]) ?_ Ż (by simpa using ah)⟩
   .rw [al b t,if_neg (show ¬g=b from fun e=>hF (e▸ah))]
   .have ao:=al g ai
    rw [if_pos rfl,k]at ao;have aq:(x.mergeSort fun x y=>á (x<=y)).length=len:=by rw [List.length_mergeSort,hlen]
    obtain⟨q1,q2⟩:=ajW (x.mergeSort fun x y=>á (x<=y)) cur ž
    simp only [aE];refine⟨_,len,cap,rfl,h0,by rw [ω,kH,aq,Ι],h2,h3,.inl ⟨trivial,.inr ⟨g,_,ty,frz,[],rfl,ao,by rw [q2,q,Ι],by rw [q2];exact hz,rfl, ?_⟩⟩⟩
    rw [Ι,<-aq,q1];exact Tv fun m hm=>t m ((List.mergeSort_perm x _).mem_iff.1 hm)
  .cases hf
end Go.Ev
namespace Go.Ev
open Go Go.RowKit
theorem Ty (c:UInt8): ∀s:O,(Î s [c]= -1/\c∉s)\/ ∃a rest,s=a++c::rest/\c∉a/\Î s [c]=a.length
 | []=>.inl ⟨rfl,Ż⟩
 |b::s=>by
  by_cases h:c=b
  .subst h
   exact .inr ⟨[],s,rfl,Ż,by simp [Î]⟩
  .rcases Ty c s with⟨e,d⟩|⟨a,rest,rfl,d,e⟩
   .simp_all [Î]
   .right
    refine⟨b::a,rest,rfl,ť, ?_⟩
    simp_all [Î,χ]
theorem Iw: ∀(s cur:O),32∉s->bk cur s=[cur++s].filter fun t=> !(t.isEmpty)
 | [],cur,_=>by
  grind [bk]
 |b::s,cur,h=>by
  have d:(b==32)=ä:=by
   grind
  rw [bk,d,Iw s (cur++[b]) ť,Å];rfl
theorem Tz: ∀(a cur rest:O),32∉a->bk cur (a++32::rest)=([cur++a].filter fun t=> !(t.isEmpty))++bk [] rest
 | [],cur,rest,_=>by
  grind [bk]
 |b::a,cur,rest,h=>by
  have d:(b==32)=ä:=by
   grind
  rw [Ý,bk,d,Tz a (cur++[b]) rest ť,Å];rfl
theorem TA: ∀(k:Nat) (s:O),s.count 32<=k->(ϙ [32] 0 k s).filter (fun t=> !(t.isEmpty))=bk [] s
 |0,s,h=>by
  have b:(32:UInt8)∉s:=fun hm=>Ŵ
  rw [Iw s [] b];rfl
 |k+1,s,h=>by
  unfold ϙ;rcases Ty 32 s with⟨e,b⟩|⟨a,rest,rfl,b,e⟩
  .rw [e,Iw s [] b];rfl
  .rw [e,if_neg Ż,Tz a [] rest b,List.filter_cons]
   have g:(a++32::rest).take (Ϟ (a.length:Int)+0)=a:=Ż
   have d:(a++32::rest).drop (Ϟ (a.length:Int)+([32]:O).length)=rest:=by
    simp
   have f:rest.count 32<=k:=Ŵ
   rw [d,TA k rest f];grind
theorem Bh: ∀(s cur t:O),t∈bk cur s->t.length<=cur.length+s.length
 | [],cur,t,h=>by
  grind [bk]
 |b::s,cur,t,h=>by
  rw [bk]at h;cases d:b==32 with
  |true=>
   rw [d]at h;cases cur with
   |nil=>
    have:=Bh s [] t h;grind
   |cons c cur=>
    rcases ν.1 h with rfl|h
    .omega
    .have:=Bh s [] t h
     grind
  |false=>
   rw [d]at h;have:=Bh s (cur++[b]) t h;grind
theorem TB {H:Heap} {R:Nat->Prop} {own:Bool}: ∀ {l:List O},(∀t∈l,t.length<=maxLen)->az H R own (l.map fun t=>bf.s t) (l.map fun t=>À ⟨t.toArray⟩) []
 | [],_=>Č
 |t::l,h=>by
  exact⟨_,_,[],[],rfl,rfl,⟨rfl,h t Ż,rfl⟩,TB fun m hm=>h m Ŵ⟩
theorem ajY {P:Program} {gl:bA} {f:FuncId} {fn:Func} {g:Nat} {e:TypeId} (hg:gl.some64 g)
  (hc: ∀(s:ByteArray) (m:Int) (w:World),s.size<4294967281->w.cell? ⟨g,0,â⟩=ã (.int ß m)->Calls P f #[.string s] w fun r w'=> ∃i,r=.returned i/\w'.ownsRow w.heap.size e 1 i (bk [] s.data.toList).length ((bk [] s.data.toList).map fun t=>À ⟨t.toArray⟩)/\Below w.heap.size w w')
  (ds:List DV) (r:bK [.sl (.one .str)]) (h:wG ds=ã r):
  cR P gl {f:=f,fn:=fn,ins:=[.one .str],bx:=[],outs:=.one (.own (.sl (.one .str))),bH:=[],loops:=[],cH:=[],bz:=[.sl (.one .str)],bT:=ã wG} ds r:=by
 intro w F R bl args dB dA AB AA q u j;obtain⟨a,A1,rfl,rfl,⟨nm,hk⟩,rfl,rfl⟩:=Iu (k1:=.str) rfl rfl u j;obtain⟨x,rfl,rfl,hx,rfl⟩:=hk;subst q;obtain⟨x,z⟩: ∃y:O,y=x:=⟨x,rfl⟩
 subst z;have h':cond (Û x.length 4000000000) (ã (bk [] x)) â=ã r:=h;cases hl:Û x.length 4000000000 with
 |false=>simp_all
 |true=>
  rw [hl]at h';have hr:r=bk [] x:=(Æ h').symm;subst hr;have hl:=É hl;obtain⟨m,hm⟩:=hg.at_ j.gl;refine(hc ⟨x.toArray⟩ m w (by show x.toArray.size<4294967281;grind) hm).mono ?_
  rintro rr w' ⟨i,rfl,k,d⟩
  have aj:enc (.sl (.one .str)) (bk [] x)=.l 1 ((bk [] x).map fun t=>bf.s t):=by
   show bf.l 1 (Õ (fun t=>[bf.s t]) (bk [] x))=_
   rw [Tw]
  have ak: ∀H:Heap,az H R å ((bk [] x).map fun t=>bf.s t) ((bk [] x).map fun t=>À ⟨t.toArray⟩) []:=fun H=>TB fun t ht=>by
   have:=Bh x [] t ht;grind
  have fin: ∀fp':List Nat,aE (hp w') R å (.l 1 ((bk [] x).map fun t=>bf.s t)) i fp'->fp'.Nodup->(∀b∈fp',w.heap.size<=b)->Ev.cx i=å->
    jP {f:=f,fn:=fn,ins:=[.one .str],bx:=[],outs:=.one (.own (.sl (.one .str))),bH:=[],loops:=[],cH:=[],bz:=[.sl (.one .str)],bT:=ã wG} w w' F R bl (bk [] x) i:=by
   intro fp' k6 k7 k8 k9;refine⟨d.size,fun b hb _=>d.block b hb,d.os,d.tape,d.output,[⟨.sl (.one .str),bk [] x⟩],[(ft 9000 0,i,fp')],[],[],rfl, ?_,Ē,by simp_all [Env.fps],fun b hb=>.inr (k8 b (by simp_all [Env.fps]))⟩
   exact⟨.inr k9,_,fp',rfl,rfl,ť,rfl⟩
  obtain⟨o1,o2⟩:=k;rcases o2 with⟨rfl,ay⟩|⟨g',p,cur,rfl,hb,af,hle,ag,ah,a1⟩
  .refine fin [] ?_ Ζ Ż rfl
   simp [aE]
   grind
  .refine fin [g'] ?_ Ż ť rfl
   simp only [aE];exact⟨_,_,p,rfl,ž,Ż,hle,ag,.inl ⟨trivial,.inr ⟨g',cur,e,(0,0),[],rfl,af,ah,pM _ _,rfl,ť⟩⟩⟩
open Go.Sort in
theorem ajZ (w:World) (d:List ByteArray) (e:TypeId):Holds À (w.alloc (.cells (d.map À).toArray e)) w.heap.size 0 d.toArray:=fun j hj=>by
 have hj:j<d.length:=Ŗ
 have b:(w.alloc (.cells (d.map À).toArray e)).heap[w.heap.size]? =ã (.cells (d.map À).toArray e (0,0)):=heap_alloc_new w _;rw [Ν];refine⟨?_,frozen_of_row _ _ _ _ _ b⟩
 rw [cell_of_row _ _ j _ e (0,0) b,getElem!_pos d.toArray j Ŗ]
 simp [hj]
open Go.Sort in
theorem akA {α:Type} [Inhabited α] (f:α->Value) (b:List α) (c:Array Value) (h:b.length<=c.size):(putCells f 0 b.toArray c).toList.take b.length=b.map f/\(putCells f 0 b.toArray c).size=c.size:=by
 constructor
 .apply σ
  intro j;unfold putCells;rw [Ñ,Θ]
  by_cases hj:j<b.length
  .rw [if_pos hj,Ü,Ο,Ö ž,Ù hj]
   simp only [Option.map_some];rw [if_pos ⟨Υ _,ź⟩,ϗ,getElem!_pos b.toArray j Ŗ]
   simp
  .rw [if_neg hj,Ρ ž];rfl
 .unfold putCells;simp
open Go.Sort in
theorem akB (w:World) (d:List ByteArray) (e:TypeId) (s:ByteArray) (q k:Nat) (hd:d=Lib.splitB ⟨#[32]⟩ 0 (Ϛ s ⟨#[32]⟩) s) (hk:k=d.length) (hm:d.length<=maxLen):
  (putRow À (Ï (w.alloc (.cells (d.map À).toArray e)) q) w.heap.size 0 ((d.filter fun t=> !(t.data.toList.isEmpty))++Χ (d.length-(d.filter fun t=> !(t.data.toList.isEmpty)).length) (⟨#[]⟩:ByteArray)).toArray).ownsRow w.heap.size e 1 (.slice (ã ⟨w.heap.size,0,â⟩) (d.filter fun t=> !(t.data.toList.isEmpty)).length k) (bk [] s.data.toList).length ((bk [] s.data.toList).map fun t=>À ⟨t.toArray⟩)/\
   Below w.heap.size w (putRow À (Ï (w.alloc (.cells (d.map À).toArray e)) q) w.heap.size 0 ((d.filter fun t=> !(t.data.toList.isEmpty))++Χ (d.length-(d.filter fun t=> !(t.data.toList.isEmpty)).length) (⟨#[]⟩:ByteArray)).toArray):=by
 have hw:(d.filter fun t=> !(t.data.toList.isEmpty)).map (·.data.toList)=bk [] s.data.toList:=by
  rw [<-TA (Ϛ s ⟨#[32]⟩) s.data.toList (by rw [<-Lib.count_one];exact È _),<-Lib.splitB_data ⟨#[32]⟩ 0 _ s,<-hd,List.filter_map]
  rfl
 have hlen:(d.filter fun t=> !(t.data.toList.isEmpty)).length=(bk [] s.data.toList).length:=by rw [<-hw,ω]
 have hle:(d.filter fun t=> !(t.data.toList.isEmpty)).length<=d.length:=List.length_filter_le _ _
 have g:(bk [] s.data.toList).map (fun t=>À ⟨t.toArray⟩)=(d.filter fun t=> !(t.data.toList.isEmpty)).map À:=by
  rw [<-hw,List.map_map];rfl
 rw [g,<-hlen];generalize d.filter (fun t=> !(t.data.toList.isEmpty))=l at hle
 obtain⟨z,h⟩: ∃z,z=l++Χ (d.length-l.length) (⟨#[]⟩:ByteArray):=⟨_,rfl⟩
 have i:z.length=d.length:=by rw [h];simp;omega
 rw [<-h];obtain⟨q1,q2⟩:=akA À z (d.map À).toArray Ĥ
 have p:(putRow À (Ï (w.alloc (.cells (d.map À).toArray e)) q) w.heap.size 0 z.toArray).heap[w.heap.size]? =ã (.cells (putCells À 0 z.toArray (d.map À).toArray) e (0,0)):=by
  have f:=wX (Ï (w.alloc (.cells (d.map À).toArray e)) q) w.heap.size (putCells À 0 z.toArray) w.heap.size;rw [if_pos rfl]at f;have r:hp (Ï (w.alloc (.cells (d.map À).toArray e)) q) w.heap.size=ã (.cells (d.map À).toArray e (0,0)):=heap_alloc_new w _;rw [r]at f;exact f
 have j:(putRow À (Ï (w.alloc (.cells (d.map À).toArray e)) q) w.heap.size 0 z.toArray).heap.size=w.heap.size+1:=by
  unfold putRow mapBlock Ï World.alloc;simp
 refine⟨⟨Ż,.inr ⟨w.heap.size,k,_,rfl,È _,p,ž,ž,by rw [q2];simp [hk], ?_⟩⟩,⟨rfl,rfl,rfl,by rw [j];omega,fun b u=> ?_⟩⟩
 .rw [Ι]
  have:l.length<=z.length:=ž
  have m:=congrArg (List.take l.length) q1;rw [Η,Ò this,<-List.map_take]at m;rw [m,h,Ç];rfl
 .have f:=wX (Ï (w.alloc (.cells (d.map À).toArray e)) q) w.heap.size (putCells À 0 z.toArray) b
  rw [if_neg ž]at f
  exact f.trans (heap_alloc_old w _ u)
end Go.Ev
namespace Go.Ev
open Go Go.Sort
theorem take_set {α:Type}: ∀(l:List α) (o:Nat) (v:α),o<l.length->(l.set o v).take (o+1)=l.take o++[v]
 | [],o,v,h=>by simp at h
 |a::l,0,v,_=>rfl
 |a::l,o+1,v,h=>by
  simp only [ο,List.take_succ_cons,Ý];rw [take_set l o v Ű]
theorem drop_set {α:Type}: ∀(l:List α) (o k:Nat) (v:α),(l.set o v).drop (o+1+k)=l.drop (o+1+k)
 | [],o,k,v=>Ż
 |a::l,0,k,v=>by rw [List.set_cons_zero,show 0+1+k=k+1 by omega,Ø,Ø]
 |a::l,o+1,k,v=>by
  rw [ο,show o+1+1+k=(o+1+k)+1 by omega,Ø,Ø]
  exact drop_set l o k v
structure Bi (b o:Nat) (vs:List Value) (cur:Array Value) (ty:TypeId) (frz:Nat×Nat) (w w':World):Prop where
 row: ∃ll,hp w' b=ã (.cells ll ty frz)/\ll.size=cur.size/\ll.toList=cur.toList.take o++(vs++cur.toList.drop (o+vs.length))
 other: ∀x,x≠b->hp w' x=hp w x
 size:w'.heap.size=w.heap.size
 os:w'.os=w.os
 tape:w'.tape=w.tape
 out:w'.output=w.output
theorem setAt (b:Nat) (ty:TypeId) (frz:Nat×Nat): ∀(vs:List Value) (o:Nat) (cur:Array Value) (w:World),hp w b=ã (.cells cur ty frz)->o+vs.length<=cur.size->Bi b o vs cur ty frz w (w.setCells b o vs)
 | [],o,cur,w,h,d=>⟨⟨cur,h,rfl,Ż⟩,fun _ _=>rfl,rfl,rfl,rfl,rfl⟩
 |v::vs,o,cur,w,h,d=>by
  have d:o+(vs.length+1)<=cur.size:=d;have e:w.setCell ⟨b,o,â⟩ v=mapBlock w b (·.setIfInBounds o v):=setCell_eq w b o v
  have g:hp (w.setCell ⟨b,o,â⟩ v) b=ã (.cells (cur.setIfInBounds o v) ty frz):=by
   rw [e];have:=wX w b (·.setIfInBounds o v) b
   rw [if_pos rfl,h]at this;exact this
  have ih:=setAt b ty frz vs (o+1) (cur.setIfInBounds o v) (w.setCell ⟨b,o,â⟩ v) g ź
  obtain⟨ll,k1,k2,k3⟩:=ih.row;refine⟨⟨ll,k1,by rw [k2];simp, ?_⟩,fun x f=> ?_, ?_,ih.os.trans rfl,ih.tape.trans rfl,ih.out.trans rfl⟩
  .rw [k3,Array.toList_setIfInBounds,take_set _ _ _ ź,drop_set,Å]
   simp [Nat.add_assoc,Nat.add_comm 1]
  .rw [show w.setCells b o (v::vs)=(w.setCell ⟨b,o,â⟩ v).setCells b (o+1) vs from rfl,ih.other x f,e]
   have:=wX w b (·.setIfInBounds o v) x
   rw [if_neg (fun e=>f e.symm)]at this
   exact this
  .rw [show w.setCells b o (v::vs)=(w.setCell ⟨b,o,â⟩ v).setCells b (o+1) vs from rfl,ih.size,e]
   unfold mapBlock;simp
theorem Bi.trans {b o i:Nat} {vs f:List Value} {cur ll:Array Value} {ty:TypeId} {frz:Nat×Nat} {w w' d:World} (h:Bi b o vs cur ty frz w w') (k:Bi b i f ll ty frz w' d):(∀x,x≠b->hp d x=hp w x)/\d.heap.size=w.heap.size/\d.os=w.os/\d.tape=w.tape/\d.output=w.output:=
 ⟨fun x g=>(k.other x g).trans (h.other x g),k.size.trans h.size,k.os.trans h.os,k.tape.trans h.tape,k.out.trans h.out⟩
theorem wY {w:World} {b:Nat} {cur:Array Value} {ty:TypeId} {frz:Nat×Nat} (h:hp w b=ã (.cells cur ty frz)) (j:Nat):w.cell? ⟨b,j,â⟩=cur[j]? :=cell_of_row w b j cur ty frz h
theorem TC (b:Array Value) (n k:Nat) (hk:b.size=k) (f: ∀u∈b.toList,u.oneCell'=å):(Ä b n).toList.length=n*k/\ ∀u∈(Ä b n).toList,u.oneCell'=å:=by
 subst hk;unfold Ä;refine⟨Ż,fun u hu=> ?_⟩
 simp only [Ψ,Array.mem_map,Array.mem_range]at hu;obtain⟨j,hj,rfl⟩:=hu;have d:0<b.size:=by
  rcases Nat.eq_zero_or_pos b.size with h|h
  .rw [h]at hj;simp at hj
  .exact h
 refine f _ ?_
 rw [getElem!_pos b (j%b.size) (Nat.mod_lt _ d)];exact Ψ.2 (Array.getElem_mem _)
theorem akC {P:Program} (w:World) (t e ty:TypeId) (z:Value) (k:Nat) (h:P.underlying t=ã (.slice e)) (i: ∀w,(zeroValue e).run P w=.ok z w) (hk:z.cells.size=k) (p: ∀u∈z.cells.toList,u.oneCell'=å) (b o n c:Nat) (s:0<n)
  (q: ∀j,j<n*k->(w.cell? ⟨b,o+j,â⟩).isSome=å) (r: ∀j,j<n*k->w.frozen? ⟨b,o+j,â⟩=ä):
  (ϋ #[t] ty #[.slice (ã ⟨b,o,â⟩) n c]).run P w=.ok (.tuple #[]) (w.setCells b o (Ä z.cells n).toList):=by
 obtain⟨g,f⟩:=TC z.cells n k hk p;have d:=run_storeCells_cells (P:=P) b o (Ä z.cells n).toList 0 w (by rw [g];simpa using q) (by rw [g];simpa using r) f
 simp only [Nat.add_zero]at d;obtain⟨m,rfl⟩: ∃m,n=m+1:=⟨n-1,ž⟩
 simp [ϋ,run_underlying h,i,d]
end Go.Ev
namespace Go.Ev
open Go
theorem Bj {P:Program} (w:World) (dT q ty elem:TypeId) (k b o d f:Nat) (a:Addr) (sLen sCap:Nat) (cs:List Value)
  (hu:P.underlying dT=ã (.slice elem)) (p:(P.info? elem).map (·.size)=ã k) (r:cs.length=Ϣ sLen d*k)
  (g: ∀j v,cs[j]? =ã v->w.cell? (a.add j)=ã v) (s: ∀j,j<cs.length->(w.cell? ⟨b,o+j,â⟩).isSome=å) (t: ∀j,j<cs.length->w.frozen? ⟨b,o+j,â⟩=ä) (u: ∀v∈cs,v.oneCell'=å):
  (ώ #[dT,q] ty #[.slice (ã ⟨b,o,â⟩) d f,.slice (ã a) sLen sCap]).run P w=.ok (goInt (Ϣ sLen d)) (w.setCells b o cs):=by
 have z:=run_loadCells_list (P:=P) w a cs g;have h:=run_storeCells_cells (P:=P) b o cs 0 w (by simpa using s) (by simpa using t) u
 cases m:P.info? elem with
 |none=>simp [m]at p
 |some i=>
  have hi:i.size=k:=by simpa [m]using p
  simp [ώ,run_underlying hu,Ϡ,ϛ,sizeOf,typeInfo,m,hi,<-r,z,h]
theorem isSome_setCells (b:Nat) (vs:List Value) (o:Nat) (w:World) (h: ∀j,j<vs.length->(w.cell? ⟨b,o+j,â⟩).isSome=å) (k:Nat) (hk:(w.cell? ⟨b,k,â⟩).isSome=å):((w.setCells b o vs).cell? ⟨b,k,â⟩).isSome=å:=by
 by_cases d:o<=k/\k<o+vs.length
 .have:=World.cell?_setCells_in b vs o w h (k-o) ž
  rw [show o+(k-o)=k by omega]at this
  rw [this];rfl
 .rw [World.cell?_setCells_out b vs o w ⟨b,k,â⟩ (fun _ _=>by show k<o\/o+vs.length<=k;omega)]
  exact hk
theorem rM {w:World} {b:Nat} {cur:Array Value} {ty:TypeId} {frz:Nat×Nat} (h:hp w b=ã (.cells cur ty frz)) (k:Nat): ∀j v,(cur.toList.take k)[j]? =ã v->w.cell? ⟨b,j,â⟩=ã v:=fun j v hj=>by
 rw [Ñ]at hj
 split at hj
 .rw [wY h];simpa using hj
 .cases hj
theorem TD {w:World} {b:Nat} {cur:Array Value} {ty:TypeId} {frz:Nat×Nat} (h:hp w b=ã (.cells cur ty frz)) {j:Nat} (hj:j<cur.size):(w.cell? ⟨b,j,â⟩).isSome=å:=by
 rw [wY h,Ö hj];rfl
theorem TE {w:World} {b:Nat} {cur:Array Value} {ty:TypeId} {frz:Nat×Nat} (h:hp w b=ã (.cells cur ty frz)):w.shape? b=ã (ty,cur.size):=by
 have h:w.heap[b]? =ã (.cells cur ty frz):=h;unfold World.shape?;rw [h]
end Go.Ev
namespace Go.Ev
open Go
theorem TF {gl:bA} {E:Entry} {w:World} {F R:Nat->Prop} {bl:Nat->Nat} {args:Array Value} {dB dA:List DV} {AB AA:Env} {k1 k2 k3:CK} (g:E.ins=[.one k1,.one k2,.one k3]) (m:E.bx=[]) (p:args.size=E.ins.length)
  (f:rB gl E w F R bl (fun i=>args.getD i undef) dB dA AB AA): ∃a b c d1 d2 d3 A1 A2 q,args= #[a,b,c]/\dB++dA=d1++(d2++d3)/\(∃L nm,ax (hp w) R (eP bl) å L nm k1 d1 a A1)/\(∃L nm,ax (hp w) R (eP bl) å L nm k2 d2 b A2)/\(∃L nm,ax (hp w) R (eP bl) å L nm k3 d3 c q)/\(A1.fps++(A2.fps++q.fps)).Nodup/\ ∀x∈A1.fps++(A2.fps++q.fps),F x:=by
 rw [g]at p;obtain⟨l⟩:=args;match l,p with
 | [a,b,c],_=>
  have h:=f.kb;rw [m]at h;simp only [bY]at h;obtain⟨rfl,rfl⟩:=h;have j:=f.kt;rw [g]at j;simp only [jk,eJ,bU]at j;obtain⟨d1,r,A1,s,t,u,⟨-,z⟩,d2,ad,A2,ae,e3,e4,⟨-,h2⟩,d3,d4,q,A4,e5,e6,⟨-,h3⟩,e7,e8⟩:=j;subst t u e3 e4 e5 e6 e7 e8;have k:=f.nd;have d:=f.own;rw [m]at k d;simp only [Β,Γ,Ð,Env.dm]at k d;exact⟨a,b,c,d1,d2,d3,A1,A2,q,rfl,Ż,⟨_,_,z⟩,⟨_,_,h2⟩,⟨_,_,h3⟩,k,d⟩
theorem tN {f:FuncId} {fn:Func} {ins:List bg} {ts:aR} {p:List DV->Option (bK [.sl ts])} {w w':World} {F R:Nat->Prop} {bl:Nat->Nat} {x:Interp (.sl ts)} {v:Value} {fp:List Nat} (h:w.heap.size<=w'.heap.size) (i: ∀b,b<w.heap.size-> ¬F b->hp w' b=hp w b) (j:w'.os=w.os) (k:w'.tape=w.tape) (m:w'.output=w.output)
  (g:aE (hp w') R å (enc (.sl ts) x) v fp) (d:fp.Nodup) (q: ∀b∈fp,F b\/w.heap.size<=b):jP {f:=f,fn:=fn,ins:=ins,bx:=[],outs:=.one (.own (.sl ts)),bH:=[],loops:=[],cH:=[],bz:=[.sl ts],bT:=ã p} w w' F R bl x v:=by
 refine⟨h,i,j,k,m,[⟨.sl ts,x⟩],[(ft 9000 0,v,fp)],[],[],rfl, ?_,Ē,by simpa [Env.fps]using d,fun b r=>q b (by simpa [Env.fps]using r)⟩
 simp only [bU,ax];exact⟨.inr g.cx,x,fp,rfl,rfl,g,rfl⟩
def dS (ts:aR) (x:List (bc ts)):List bf:=x.flatMap (bI ts)
theorem jV (ts:aR) (x:List (bc ts)):(dS ts x).length=x.length*ts.size:=by
 unfold dS;rw [ζ,η (g:=fun _=>ts.size) (fun x _=>wA ts x),ψ,Ξ]
theorem wZ (ts:aR) (x y:List (bc ts)):dS ts (x++y)=dS ts x++dS ts y:=by unfold dS;rw [List.flatMap_append]
theorem TG (ts:aR) (x:List (bc ts)) (i:Nat):dS ts (x.take i)=(dS ts x).take (i*ts.size):=by
 by_cases h:i<=x.length
 .have e:=wZ ts (x.take i) (x.drop i)
  rw [Ê]at e;rw [e,Ç];rw [jV,Á,Ò h]
 .rw [Ì ž,Ì]
  rw [jV];exact Â _ ž
theorem TH (ts:aR) (x:List (bc ts)) (i:Nat):dS ts (x.drop i)=(dS ts x).drop (i*ts.size):=by
 by_cases h:i<=x.length
 .have e:=wZ ts (x.take i) (x.drop i)
  rw [Ê]at e;rw [e,ϊ];rw [jV,Á,Ò h]
 .rw [Í ž,Í]
  .rfl
  .rw [jV]
   exact Â _ ž
theorem xa {ts:aR} (h:qb ts=å) (x:List (bc ts)): ∀d∈dS ts x,qc d=å:=fun d hd=>by
 obtain⟨y, -,hy⟩:=φ.1 hd;exact It h y d hy
section
variable {H H':Heap} {R R':Nat→Prop} {own own':Bool}
theorem az.TI {ds:List bf} {vs:List Value} {fp:List Nat} (f: ∀d∈ds,qc d=å) (h:az H R own ds vs fp) (k:Nat) (hk:k<=ds.length):az H' R' own' (ds.take k) (vs.take k) []:=by
 have g:az H R own (ds.take k++ds.drop k) vs fp:=by rw [Ê];exact h
 obtain⟨f1,f2, -,b, -⟩:=az.split g;rw [Á,Ò hk]at b;exact(az.flat (fun d hd=>f d (List.mem_of_mem_take hd)) b).2
theorem az.TJ {ds:List bf} {vs:List Value} {fp:List Nat} (f: ∀d∈ds,qc d=å) (h:az H R own ds vs fp) (k:Nat) (hk:k<=ds.length):az H' R' own' (ds.drop k) (vs.drop k) []:=by
 have g:az H R own (ds.take k++ds.drop k) vs fp:=by rw [Ê];exact h
 obtain⟨f1,f2, -, -,b⟩:=az.split g;rw [Á,Ò hk]at b;exact(az.flat (fun d hd=>f d (List.mem_of_mem_drop hd)) b).2
theorem az.xc {ds es:List bf} {vs us:List Value} (h:az H R own ds vs []) (k:az H R own es us []):az H R own (ds++es) (vs++us) []:=by
 have:=h.append k;simpa using this
theorem Ix {ts:aR} (d:qb ts=å) {x:Interp (.sl ts)} {v:Value} {fp:List Nat} (h:aE H R å (enc (.sl ts) x) v fp): ∃a len cap,v=.slice a len cap/\0<ts.size/\(x:List (bc ts)).length=len/\len<=cap/\cap<=maxLen/\((cap=0/\fp=[])\/ ∃g cur ty frz,a=ã ⟨g,0,â⟩/\H g=ã (.cells cur ty frz)/\cur.size=cap*ts.size/\pj ts.size cur.size frz/\fp=[g]/\az H R å (dS ts x) (cur.toList.take (len*ts.size)) []):=by
 have h:aE H R å (.l ts.size (dS ts x)) v fp:=h;simp only [aE]at h;obtain⟨a,len,cap,rfl,f,i,j,k,b⟩:=h;have m:(x:List (bc ts)).length=len:=Ε f ((jV ts x).symm.trans i);refine⟨a,len,cap,rfl,f,m,j,k, ?_⟩
 rcases b with⟨-,b⟩|⟨b, -⟩
 .rcases b with b|⟨g,cur,ty,frz,fps,k1,k2,k3,p,q,r⟩
  .exact .inl b
  .obtain⟨rfl,s⟩:=az.flat (H':=H) (R':=R) (own':=true) (xa d x) r
   exact .inr ⟨g,cur,ty,frz,k1,k2,k3,p,q,s⟩
 .cases b
theorem Bk {ts:aR} {x:Interp (.sl ts)} {g len cap:Nat} {cur:Array Value} {ty:TypeId} {frz:Nat×Nat} (b:0<ts.size) (d:(x:List (bc ts)).length=len) (f:len<=cap) (h:cap<=maxLen) (i:H g=ã (.cells cur ty frz)) (j:cur.size=cap*ts.size) (k:pj ts.size cur.size frz) (m:az H R å (dS ts x) (cur.toList.take (len*ts.size)) []):aE H R å (enc (.sl ts) x) (.slice (ã ⟨g,0,â⟩) len cap) [g]:=by
 show aE H R å (.l ts.size (dS ts x)) _ _;simp only [aE];exact⟨_,len,cap,rfl,b,by rw [jV,d],f,h,.inl ⟨trivial,.inr ⟨g,cur,ty,frz,[],rfl,i,j,k,rfl,m⟩⟩⟩
end
theorem akD {P:Program} {gl:bA} {f:FuncId} {fn:Func} {ts:aR} (d:qb ts=å) (aq: ∀(x:Interp (.sl ts)) (i j:Int),eI [.sl ts,.int ß,.int ß] [⟨.sl ts,x⟩,⟨.int ß,i⟩,⟨.int ß,j⟩]=ã (x,i,j))
  (hc: ∀(aQ n cap i j:Nat) (cur:Array Value) (ty:TypeId) (frz:Nat×Nat) (w:World),hp w aQ=ã (.cells cur ty frz)->cur.size=cap*ts.size->gM cur.size frz->n<=cap->cap<=maxLen->i<j->j<=n->(∀u∈cur.toList.take (n*ts.size),u.oneCell'=å)->
   Calls P f #[.slice (ã ⟨aQ,0,â⟩) n cap,.int ß i,.int ß j] w fun e w'=>e=.returned (.slice (ã ⟨aQ,0,â⟩) (n-(j-i)) cap)/\ ∃news zs,news=(cur.toList.take (n*ts.size)).drop (j*ts.size)/\w'=(w.drew.setCells aQ (i*ts.size) news).setCells aQ ((i+(n-j))*ts.size) zs/\zs.length=(j-i)*ts.size)
  (ar: ∀(a:Option Addr) (n cap i:Nat) (w:World),i<=n->n<=cap->cap<=maxLen->(a=â->cap=0)->Calls P f #[.slice a n cap,.int ß i,.int ß i] w fun e w'=>e=.returned (.slice a n cap)/\w'=w)
  (ds:List DV) (r:bK [.sl ts]) (h:wF (.sl ts) ds=ã r):
  cR P gl {f:=f,fn:=fn,ins:=[.one (.own (.sl ts)),.one (.int ß),.one (.int ß)],bx:=[],outs:=.one (.own (.sl ts)),bH:=[],loops:=[],cH:=[],bz:=[.sl ts],bT:=ã (wF (.sl ts))} ds r:=by
 intro w F R bl args dB dA AB AA p au av;obtain⟨a,b,c,d1,d2,d3,A1,A2,A3,rfl,e0,⟨L1,bh,k1⟩,⟨L2,bj,k2⟩,⟨L3,bk,k3⟩,aw,hF⟩:=TF (k1:=.own (.sl ts)) (k2:=.int ß) (k3:=.int ß) rfl rfl au av;rw [e0]at p;simp only [ax]at k1 k2 k3;obtain⟨x,fp,rfl, -,s,rfl⟩:=k1;obtain⟨i,rfl,rfl, -,rfl⟩:=k2;obtain⟨j,rfl,rfl, -,rfl⟩:=k3;have p:ds=[⟨.sl ts,x⟩,⟨.int ß,i⟩,⟨.int ß,j⟩]:=p;subst p;obtain⟨i,hi⟩: ∃k:Int,k=i:=⟨i,rfl⟩
 obtain⟨j,hj⟩: ∃k:Int,k=j:=⟨j,rfl⟩
 subst hi hj;obtain⟨x,hx⟩: ∃y:List (bc ts),y=x:=⟨x,rfl⟩
 subst hx;have h':cond (á (0<=i/\i<=j/\j<=(x.length:Int))) (ã (x.take i.toNat++x.drop j.toNat)) â=ã r:=by
  unfold wF at h;rw [aq x i j]at h;exact h
 by_cases q: ¬(0<=i/\i<=j/\j<=(x.length:Int))
 .rw [hJ q]at h';cases h'
 have q:=Classical.not_not.1 q;rw [hC q]at h';have hr:x.take i.toNat++x.drop j.toNat=r:=Æ h';subst hr;obtain⟨i,rfl⟩: ∃k:Nat,i=k:=⟨i.toNat,ž⟩
 obtain⟨j,rfl⟩: ∃k:Nat,j=k:=⟨j.toNat,ž⟩
 rw [Κ,Κ];obtain⟨ad,n,cap,rfl,h0,hl,h2,h3,h4⟩:=Ix d s;have hlen:x.length=n:=hl;have z: ∀b∈fp,F b:=fun b hb=>hF b (by simp [Env.fps,hb])
 have t:fp.Nodup:=by have:=(τ.1 aw).1;simpa [Env.fps]using this
 by_cases he:i=j
 .subst he
  refine(ar ad n cap i w ž h2 h3 (fun ha=> ?_)).mono ?_
  .rcases h4 with⟨h4, -⟩|⟨g,cur,ty,frz,hg, -⟩
   .exact h4
   .rw [ha]at hg;cases hg
  .rintro e w' ⟨rfl,rfl⟩
   refine tN (È _) (fun _ _ _=>rfl) rfl rfl rfl ?_ t (fun b hb=>.inl (z b hb))
   rw [Ê];exact s
 .rcases h4 with⟨rfl, -⟩|⟨g,cur,ty,frz,rfl,hg,hs,hz,rfl,ae⟩
  .omega
  have bt:=pF hg;refine(hc g n cap i j cur ty frz w hg hs hz.1 h2 h3 ž ž (fun u hu=>Bf (az.cx ae u hu))).mono ?_
  rintro e w' ⟨rfl,news,zs,m,rfl,a1⟩
  have m0:i*ts.size<=j*ts.size:=Â _ ž
  have m1:j*ts.size<=n*ts.size:=Â _ ž
  have m2:n*ts.size<=cap*ts.size:=Â _ h2;have bu:news.length=n*ts.size-j*ts.size:=by rw [m,Α,Á,Ë];omega
  have e1:(i+(n-j))*ts.size=i*ts.size+(n*ts.size-j*ts.size):=by rw [Ω,ε]
  have e2:(j-i)*ts.size=j*ts.size-i*ts.size:=ε _ _ _;have s1:=setAt g ty frz news (i*ts.size) cur w.drew hg ž
  obtain⟨ah,p1,p2,p3⟩:=s1.row;have s2:=setAt g ty frz zs ((i+(n-j))*ts.size) ah _ p1 (by rw [p2,a1,e1,e2];omega)
  obtain⟨bd,q1,q2,q3⟩:=s2.row;obtain⟨t1,t2,t3,t4,t5⟩:=s1.trans s2;refine tN (by rw [t2];exact È _) (fun b hb a6=>t1 b (fun e=>a6 (e▸z g Ż))) t3 t4 t5 (Bk h0 ?_ (Nat.le_trans (Nat.sub_le _ _) h2) h3 q1 (by rw [q2,p2,hs]) (by rw [q2,p2];exact hz) ?_) t (fun b hb=>.inl (z b hb))
  .show(x.take i++x.drop j).length=_
   rw [Ã,Á,Α];omega
  .have e3:(n-(j-i))*ts.size=(i+(n-j))*ts.size:=by rw [show n-(j-i)=i+(n-j) by omega]
   rw [e3,q3,Ç]
   .rw [wZ,TG,TH,p3,e1]
    have e4:((cur.toList.take (i*ts.size))++(news++cur.toList.drop (i*ts.size+news.length))).take (i*ts.size+(n*ts.size-j*ts.size))=(cur.toList.take (n*ts.size)).take (i*ts.size)++(cur.toList.take (n*ts.size)).drop (j*ts.size):=by
     rw [<-Å,Ç,<-m,Η,Ò ž]
     rw [Ã,Á,Ë];omega
    rw [e4];exact az.xc (az.TI (xa d x) ae _ (by rw [jV,hlen];omega)) (az.TJ (xa d x) ae _ (by rw [jV,hlen];omega))
   .rw [Á,Ë,p2];omega
structure TK (P:Program) (f:FuncId) (sz:Nat) (e:TypeId) (zero:Value):Prop where
 nix: ∀(a:Option Addr) (n c i:Nat) (b:Option Addr) (vc:Nat) (w:World),i<=n->n<=c->c<=9223372036854775807->(a=â->c=0)->Calls P f #[.slice a n c,.int ß i,.slice b 0 vc] w fun e w'=>e=.returned (.slice a n c)/\w'=w
 room: ∀(aQ n c vb m vc:Nat) (cur cd:Array Value) (ty dU:TypeId) (w:World),hp w aQ=ã (.cells cur ty (0,0))->hp w vb=ã (.cells cd dU (0,0))->cur.size=c*sz->cd.size=vc*sz->0<m->m<=vc->n+m<=c->c<=9223372036854775807->(∀u∈cd.toList.take (m*sz),u.oneCell'=å)->
  Calls P f #[.slice (ã ⟨aQ,0,â⟩) n c,.int ß n,.slice (ã ⟨vb,0,â⟩) m vc] w fun e w'=>e=.returned (.slice (ã ⟨aQ,0,â⟩) (n+m) c)/\w'=w.setCells aQ (n*sz) (cd.toList.take (m*sz))
 grow: ∀(base:Option Addr) (n c vb m vc:Nat) (cs:List Value) (cd:Array Value) (dU:TypeId) (w:World),hp w vb=ã (.cells cd dU (0,0))->cd.size=vc*sz->0<m->m<=vc->n<=c->c<n+m->n+m<=big->cs.length=n*sz->(base=â->n=0)->(∀a,base=ã a-> ∀j v,cs[j]? =ã v->w.cell? (a.add j)=ã v)->(∀u∈cd.toList.take (m*sz),u.oneCell'=å)->
  Calls P f #[.slice base n c,.int ß n,.slice (ã ⟨vb,0,â⟩) m vc] w fun r w'=>r=.returned (.slice (ã ⟨w.heap.size,0,â⟩) (n+m) (grownCap w (n+m) c e))/\w'=w.drew.alloc (.cells ((cs++cd.toList.take (m*sz)).toArray++Ä zero.cells (grownCap w (n+m) c e-(n+m))) e)
 shift: ∀(aQ n c i vb m vc:Nat) (cur cd:Array Value) (ty dU:TypeId) (w:World),hp w aQ=ã (.cells cur ty (0,0))->hp w vb=ã (.cells cd dU (0,0))->cur.size=c*sz->cd.size=vc*sz->i<n->0<m->m<=vc->n+m<=c->c<=9223372036854775807->vb≠aQ->(∀u∈cur.toList.take (n*sz),u.oneCell'=å)->(∀u∈cd.toList.take (m*sz),u.oneCell'=å)->
  Calls P f #[.slice (ã ⟨aQ,0,â⟩) n c,.int ß i,.slice (ã ⟨vb,0,â⟩) m vc] w fun e w'=>e=.returned (.slice (ã ⟨aQ,0,â⟩) (n+m) c)/\w'=(w.drew.setCells aQ ((i+m)*sz) ((cur.toList.take (n*sz)).drop (i*sz))).setCells aQ (i*sz) (cd.toList.take (m*sz))
 mid: ∀(aQ n c i vb m vc:Nat) (cur cd:Array Value) (ty dU:TypeId) (w:World),hp w aQ=ã (.cells cur ty (0,0))->hp w vb=ã (.cells cd dU (0,0))->cur.size=c*sz->cd.size=vc*sz->i<n->0<m->m<=vc->n<=c->c<n+m->n+m<=big->(∀u∈cur.toList.take (n*sz),u.oneCell'=å)->(∀u∈cd.toList.take (m*sz),u.oneCell'=å)->
  Calls P f #[.slice (ã ⟨aQ,0,â⟩) n c,.int ß i,.slice (ã ⟨vb,0,â⟩) m vc] w fun r w'=>r=.returned (.slice (ã ⟨w.heap.size,0,â⟩) (n+m) (grownCap w (n+m) c e))/\
   w'=(((w.alloc (.cells (((cur.toList.take (n*sz)).take (i*sz)).toArray++Ä zero.cells (n+m-i)++Ä zero.cells (grownCap w (n+m) c e-(n+m))) e)).drew.setCells w.heap.size (i*sz) (cd.toList.take (m*sz))).drew).setCells w.heap.size ((i+m)*sz) ((cur.toList.take (n*sz)).drop (i*sz))
theorem Iy (z:Array Value) (n:Nat):(Ä z n).size=n*z.size:=by simp [Ä]
theorem TL (b:Nat): ∀(vs:List Value) (o:Nat) (w:World),(w.setCells b o vs).drew=w.drew.setCells b o vs
 | [],_,_=>rfl
 |v::r,o,w=>by rw [World.setCells,World.setCells,TL b r];rfl
theorem akF {P:Program} {gl:bA} {f:FuncId} {fn:Func} {ts:aR} {e:TypeId} {zero:Value} (p:qb ts=å) (al:ts.size≠1) (hzero:zero.cells.size=ts.size) (c0: ∀(x:Interp (.sl ts)) (i:Int) (y:Interp (.sl ts)),eI [.sl ts,.int ß,.sl ts] [⟨.sl ts,x⟩,⟨.int ß,i⟩,⟨.sl ts,y⟩]=ã (x,i,y))
  (hc:TK P f ts.size e zero)
  (ds:List DV) (r:bK [.sl ts]) (h:tA (.sl ts) ds=ã r):
  cR P gl {f:=f,fn:=fn,ins:=[.one (.own (.sl ts)),.one (.int ß),.one (.own (.sl ts))],bx:=[],outs:=.one (.own (.sl ts)),bH:=[],loops:=[],cH:=[],bz:=[.sl ts],bT:=ã (tA (.sl ts))} ds r:=by
 intro w F R bl args dB dA AB AA a7 c4 c5;obtain⟨a,b,c,d1,d2,d3,A1,A2,A3,rfl,e0,⟨L1,dr,k1⟩,⟨L2,dt,k2⟩,⟨L3,du,k3⟩,c6,hF⟩:=TF (k1:=.own (.sl ts)) (k2:=.int ß) (k3:=.own (.sl ts)) rfl rfl c4 c5;rw [e0]at a7;simp only [ax]at k1 k2 k3;obtain⟨x,fp,rfl, -,bk,rfl⟩:=k1;obtain⟨i,rfl,rfl, -,rfl⟩:=k2;obtain⟨y,fq,rfl, -,bo,rfl⟩:=k3;have a7:ds=[⟨.sl ts,x⟩,⟨.int ß,i⟩,⟨.sl ts,y⟩]:=a7;subst a7;obtain⟨i,hi⟩: ∃k:Int,k=i:=⟨i,rfl⟩
 subst hi;obtain⟨x,hx⟩: ∃y:List (bc ts),y=x:=⟨x,rfl⟩
 obtain⟨y,hy⟩: ∃z:List (bc ts),z=y:=⟨y,rfl⟩
 subst hx hy;have h':cond (á (0<=i/\i<=(x.length:Int))&&Û (x.length+y.length) big) (ã (x.take i.toNat++(y++x.drop i.toNat))) â=ã r:=by
  unfold tA at h;rw [c0 x i y]at h;exact h
 by_cases a8: ¬(0<=i/\i<=(x.length:Int))
 .rw [hJ a8]at h';cases h'
 have a8:=Classical.not_not.1 a8;rw [hC a8,Bool.true_and]at h';cases bb:Û (x.length+y.length) big with
 |false=>rw [bb]at h';cases h'
 |true=>
 rw [bb]at h';have bb:=É bb;have hr:x.take i.toNat++(y++x.drop i.toNat)=r:=Æ h';subst hr;obtain⟨i,rfl⟩: ∃k:Nat,i=k:=⟨i.toNat,ž⟩
 rw [Κ];obtain⟨ad,n,cap,rfl,h0,hl,h2,h3,h4⟩:=Ix p bk;obtain⟨av,m,vc,rfl, -,c9,ao,ea,da⟩:=Ix p bo;have hlen:x.length=n:=hl;have bq:y.length=m:=c9;have bm:i<=n:=ž
 have aq:n+m<=big:=ž
 have br:cap<=9223372036854775807:=by unfold maxLen at h3;omega
 have bn:(fp++fq).Nodup:=by simpa [Env.fps]using c6
 have ar: ∀b∈fp,F b:=fun b s=>hF b (by simp [Env.fps,s])
 have au:fp.Nodup:=(τ.1 bn).1;have ah:ad=â->cap=0:=fun ha=>by
  rcases h4 with⟨h4, -⟩|⟨g,cur,ty,frz,hg, -⟩
  .exact h4
  .rw [ha]at hg;cases hg
 have bd:=xa p x;have bs:=xa p y;by_cases db:m=0
 .subst db
  have dc:y=[]:=Ú.1 bq;subst dc;refine(hc.nix ad n cap i av vc w bm h2 br ah).mono ?_
  rintro e w' ⟨rfl,rfl⟩
  refine tN (È _) (fun _ _ _=>rfl) rfl rfl rfl ?_ au (fun b s=>.inl (ar b s))
  rw [Β,Ê];exact bk
 rcases da with⟨rfl, -⟩|⟨gv,cd,dU,ch,rfl,bf,bg,dd,rfl,bh⟩
 .omega
 have de:ch=(0,0):=dd.2.resolve_left al;subst de;have bj: ∀u∈cd.toList.take (m*ts.size),u.oneCell'=å:=fun u hu=>Bf (az.cx bh u hu)
 obtain⟨vs,t⟩: ∃vs,vs=cd.toList.take (m*ts.size):=⟨_,rfl⟩
 have mv:m*ts.size<=vc*ts.size:=Â _ ao;have ae:vs.length=m*ts.size:=by rw [t,Á,Ë];omega
 have ay:(x.take i++(y++x.drop i)).length=n+m:=by rw [Ã,Ã,Á,Α];omega
 have q:dS ts (x.take i++(y++x.drop i))=(dS ts x).take (i*ts.size)++(dS ts y++(dS ts x).drop (i*ts.size)):=by rw [wZ,wZ,TG,TH]
 have mi:i*ts.size<=n*ts.size:=Â _ bm;have mn:n*ts.size<=cap*ts.size:=Â _ h2;have bt:(n+m)*ts.size=n*ts.size+m*ts.size:=Ω _ _ _;have cj:(i+m)*ts.size=i*ts.size+m*ts.size:=Ω _ _ _;have ai:n+m<=grownCap w (n+m) cap e:=grownCap_ge w _ _ _;have ck:grownCap w (n+m) cap e<=maxLen:=grownCap_le_maxLen w _ _ _ (by unfold maxLen;unfold big at aq;omega)
 have fresh: ∀ {w':World} {ll:Array Value},hp w' w.heap.size=ã (.cells ll e (0,0))->(∀b,b<w.heap.size->hp w' b=hp w b)->w.heap.size<=w'.heap.size->w'.os=w.os->w'.tape=w.tape->w'.output=w.output->ll.size=grownCap w (n+m) cap e*ts.size->az (hp w') R å (dS ts (x.take i++(y++x.drop i))) (ll.toList.take ((n+m)*ts.size)) []->
   jP {f:=f,fn:=fn,ins:=[.one (.own (.sl ts)),.one (.int ß),.one (.own (.sl ts))],bx:=[],outs:=.one (.own (.sl ts)),bH:=[],loops:=[],cH:=[],bz:=[.sl ts],bT:=ã (tA (.sl ts))} w w' F R bl (x.take i++(y++x.drop i)) (.slice (ã ⟨w.heap.size,0,â⟩) (n+m) (grownCap w (n+m) cap e)):=fun q1 q2 q3 q4 q5 q6 q7 q8=>
  tN q3 (fun b s _=>q2 b s) q4 q5 q6 (Bk h0 ay ai ck q1 q7 (pM _ _) q8) (List.nodup_cons.2 ⟨Ż,Ζ⟩) (fun b s=>.inr (by rw [ξ.1 s];exact È _))
 by_cases cl:i=n
 .subst cl
  have et:x.take i=x:=Ì ž
  have ed:x.drop i=[]:=Í ž
  by_cases d:i+m<=cap
  .rcases h4 with⟨rfl, -⟩|⟨g,cur,ty,frz,rfl,hg,hs,hz,rfl,af⟩
   .omega
   have bw:frz=(0,0):=hz.2.resolve_left al;subst bw;refine(hc.room g i cap gv m vc cur cd ty dU w hg bf hs bg ž ao d br bj).mono ?_
   rintro e w' ⟨rfl,rfl⟩
   rw [<-t];have mr:(i+m)*ts.size<=cap*ts.size:=Â _ d;have s1:=setAt g ty (0,0) vs (i*ts.size) cur w hg ž
   obtain⟨aj,p1,p2,p3⟩:=s1.row;refine tN (by rw [s1.size];exact È _) (fun b s ca=>s1.other b (fun e=>ca (e▸ar g Ż))) s1.os s1.tape s1.out (Bk h0 ay d h3 p1 (by rw [p2,hs]) (pM _ _) ?_) au (fun b s=>.inl (ar b s))
   rw [q,p3,bt];have e1:((dS ts x).take (i*ts.size))=dS ts x:=Ì ō
   have e2:((dS ts x).drop (i*ts.size))=[]:=Í ō
   rw [e1,e2,Ð,<-Å,Ç]
   .exact az.xc (az.flat bd af).2 (by rw [t];exact(az.flat bs bh).2)
   .rw [Ã,Á,Ë,ae];omega
  .have ag: ∃cs:List Value,cs.length=i*ts.size/\(∀a,ad=ã a-> ∀j v,cs[j]? =ã v->w.cell? (a.add j)=ã v)/\(∀H,az H R å (dS ts x) cs []):=by
    rcases h4 with⟨rfl, -⟩|⟨g,cur,ty,frz,rfl,hg,hs,hz,rfl,af⟩
    .have di:i=0:=by omega
     subst di;have dj:x=[]:=Ú.1 hlen;subst dj;exact⟨[],Ż,fun _ _ j v hj=>by simp at hj,fun H=>by simp [dS,az]⟩
    .refine⟨cur.toList.take (i*ts.size),ň,fun a ha j v hj=> ?_,fun H=>(az.flat bd af).2⟩
     cases ha;rw [Addr.add_lit,Ν];exact rM hg _ j v hj
   obtain⟨cs,c1,c2,c3⟩:=ag;refine(hc.grow ad i cap gv m vc cs cd dU w bf bg ž ao h2 ž aq c1 (fun ha=>by have:=ah ha;omega) c2 bj).mono ?_
   rintro e' w' ⟨rfl,rfl⟩
   rw [<-t];refine fresh (heap_alloc_new w.drew _) (fun b s=>zN w.drew _ s) (by show w.heap.size<=(w.heap.push _).size;simp) rfl rfl rfl ?_ ?_
   .rw [Λ,Iy,hzero,υ,Ã,c1,ae,<-bt,<-Ω,Nat.add_sub_cancel' ai]
   .rw [κ,Ç,q]
    .have e1:((dS ts x).take (i*ts.size))=dS ts x:=Ì ō
     have e2:((dS ts x).drop (i*ts.size))=[]:=Í ō
     rw [e1,e2,Ð];exact az.xc (c3 _) (by rw [t];exact(az.flat bs bh).2)
    .rw [Ã,c1,ae,bt]
 .have cq:i<n:=by omega
  rcases h4 with⟨rfl, -⟩|⟨g,cur,ty,frz,rfl,hg,hs,hz,rfl,af⟩
  .omega
  have bw:frz=(0,0):=hz.2.resolve_left al;subst bw;have dk:gv≠g:=fun e=>by subst e;simp at bn
  have cr: ∀u∈cur.toList.take (n*ts.size),u.oneCell'=å:=fun u hu=>Bf (az.cx af u hu)
  obtain⟨cs,ag⟩: ∃cs,cs=cur.toList.take (n*ts.size):=⟨_,rfl⟩
  have ak:cs.length=n*ts.size:=by rw [ag,Á,Ë];omega
  have ct:(cs.drop (i*ts.size)).length=n*ts.size-i*ts.size:=by rw [Α,ak]
  have rel: ∀H,az H R å ((dS ts x).take (i*ts.size)++(dS ts y++(dS ts x).drop (i*ts.size))) (cs.take (i*ts.size)++(vs++cs.drop (i*ts.size))) []:=fun H=>by
   rw [ag,t];exact az.xc (az.TI bd af _ (by rw [jV,hlen];exact mi)) (az.xc (az.flat bs bh).2 (az.TJ bd af _ (by rw [jV,hlen];exact mi)))
  by_cases d:n+m<=cap
  .have mr:(n+m)*ts.size<=cap*ts.size:=Â _ d
   refine(hc.shift g n cap i gv m vc cur cd ty dU w hg bf hs bg cq ž ao d br dk cr bj).mono ?_
   rintro e' w' ⟨rfl,rfl⟩
   rw [<-t,<-ag];have s1:=setAt g ty (0,0) (cs.drop (i*ts.size)) ((i+m)*ts.size) cur w.drew hg ž
   obtain⟨aj,p1,p2,p3⟩:=s1.row;have s2:=setAt g ty (0,0) vs (i*ts.size) aj _ p1 ž
   obtain⟨a1,q1,q2,q3⟩:=s2.row;obtain⟨t1,t2,t3,t4,t5⟩:=s1.trans s2;refine tN (by rw [t2];exact È _) (fun b s ca=>t1 b (fun e=>ca (e▸ar g Ż))) t3 t4 t5 (Bk h0 ay d h3 q1 (by rw [q2,p2,hs]) (pM _ _) ?_) au (fun b s=>.inl (ar b s))
   rw [q];have e3:a1.toList.take ((n+m)*ts.size)=cs.take (i*ts.size)++(vs++cs.drop (i*ts.size)):=by
    rw [q3,p3,ae,<-cj];have d1:((cur.toList.take ((i+m)*ts.size))++(cs.drop (i*ts.size)++cur.toList.drop ((i+m)*ts.size+(cs.drop (i*ts.size)).length))).drop ((i+m)*ts.size)=cs.drop (i*ts.size)++cur.toList.drop ((i+m)*ts.size+(cs.drop (i*ts.size)).length):=ϊ ň
    have d2:((cur.toList.take ((i+m)*ts.size))++(cs.drop (i*ts.size)++cur.toList.drop ((i+m)*ts.size+(cs.drop (i*ts.size)).length))).take (i*ts.size)=cs.take (i*ts.size):=by
     rw [List.take_append_of_le_length ň,Η,ag,Η]
     congr 1
     omega
    rw [d1,d2,<-Å vs,<-Å,Ç];rw [Ã,Ã,Á,ak,ae,ct];omega
   rw [e3];exact rel _
  .refine(hc.mid g n cap i gv m vc cur cd ty dU w hg bf hs bg cq ž ao h2 ž aq cr bj).mono ?_
   rintro e' w' ⟨rfl,rfl⟩
   rw [<-t,<-ag,TL];obtain⟨row,a6⟩: ∃row:Array Value,row=(cs.take (i*ts.size)).toArray++Ä zero.cells (n+m-i)++Ä zero.cells (grownCap w (n+m) cap e-(n+m)):=⟨_,rfl⟩
   have cu:row.size=grownCap w (n+m) cap e*ts.size:=by
    have b1:(n+m-i)*ts.size=(n+m)*ts.size-i*ts.size:=ε _ _ _;have b2:(grownCap w (n+m) cap e-(n+m))*ts.size=grownCap w (n+m) cap e*ts.size-(n+m)*ts.size:=ε _ _ _;have b3:(n+m)*ts.size<=grownCap w (n+m) cap e*ts.size:=Â _ ai;rw [a6,Λ,Λ,Iy,Iy,hzero,υ,Á,ak];omega
   have dn:row.toList.take (i*ts.size)=cs.take (i*ts.size):=by
    rw [a6,Array.append_assoc,κ,Ç];rw [Á,ak];omega
   rw [<-a6];have b3:(n+m)*ts.size<=grownCap w (n+m) cap e*ts.size:=Â _ ai;have cv:hp ((w.alloc (.cells row e)).drew.drew) w.heap.size=ã (.cells row e (0,0)):=heap_alloc_new w _;have s1:=setAt w.heap.size e (0,0) vs (i*ts.size) row _ cv ž
   obtain⟨aj,p1,p2,p3⟩:=s1.row;have s2:=setAt w.heap.size e (0,0) (cs.drop (i*ts.size)) ((i+m)*ts.size) aj _ p1 ž
   obtain⟨a1,q1,q2,q3⟩:=s2.row;obtain⟨t1,t2,t3,t4,t5⟩:=s1.trans s2;refine fresh q1 (fun b s=>(t1 b ž).trans (zN w _ s)) (by rw [t2];show w.heap.size<=(w.heap.push _).size;simp) t3 t4 t5 (by rw [q2,p2,cu]) ?_
   rw [q];have e3:a1.toList.take ((n+m)*ts.size)=cs.take (i*ts.size)++(vs++cs.drop (i*ts.size)):=by
    rw [q3,p3,dn,ae];have d2:(cs.take (i*ts.size)++(vs++row.toList.drop (i*ts.size+m*ts.size))).take ((i+m)*ts.size)=cs.take (i*ts.size)++vs:=by
     rw [<-Å,Ç];rw [Ã,Á,ak,ae,cj];omega
    rw [d2,<-Å,Å (cs.take (i*ts.size)),Ç];rw [Ã,Ã,Á,ak,ae,ct];omega
   rw [e3];exact rel _
end Go.Ev
namespace Go.Ev
open Go Go.Proofs Go.Shelf Go.RowKit Go.Lib
variable {P:Program} {ρ:Ren}
set_option maxHeartbeats 2000000 in
set_option maxRecDepth 100000 in
theorem Bm (L:SlLaysE0.n41 P ρ) (i0:TypeInfo) (z:Value) (size bytes:Nat) (hi:P.info? (ρ.t 23)=ã i0) (h:i0.zero=ã z) (i:i0.size=size) (m:i0.bytes=bytes) (p:z.cells.size=size) (q:0<size)
  (z23: ∀w,(Go.sizeOf (ρ.t 23)).run P w=.ok size w) (a:Addr) (c:Nat) (w:World):
  Calls P (ρ.f 41) #[.slice (ã a) 0 c] w fun e w'=> ∃g,e=.returned g/\w'.ownsRow w.heap.size (ρ.t 23) size g 0 []/\Below w.heap.size w w':=by
 have mixed:=L.mixed;have t4:=L.t4;have a4:=L.a4;have z4:=L.z4;have v4:=L.v4;have t22:=L.t22;have a22:=L.a22;have z22:=L.z22;have v22:=L.v22;have oz: ∀(w:World) (a:Option Addr) (n c r s:Nat),(binOp .eql (ρ.t 22) (.slice a n c) (.slice â r s)).run P w=.ok (.bool a.isNone) w:=fun w a n c r s=>Lib.run_eql_slice_nil w _ _ a n c r s L.t22
 have ak: ∀w,Sem.run P (underlying (ρ.t 22)) w=.ok (TypeDesc.slice (ρ.t 23)) w:=run_underlying t22
 obtain⟨_,_,FG⟩:=L.f41;go_enter FG,SlBodyN.n41_ntmps ρ
 go_wp2_with (at_builtin;refine wpList_append_own _ rfl _ _ (ρ.t 22) rfl w.heap.size (ρ.t 23) i0 z size bytes t22 hi h i m p q _ _ _ rfl (World.ownsRow_made w #[] 0 (È _) (Υ _) Ż) a 0 c [] rfl ?ad ?ae ?af ?ag ?ah ?ai ?_)
 case ad=>simp
 case ae=>intro j u hj;simp at hj
 case af=>intro u hu;simp at hu
 case ag=>exact Υ _
 case ah=>simp
 case ai=>simp
 intro g w1 d b aj;go_wp2
 go_ret
 refine⟨g,rfl,Ľ, ?_⟩
 exact((Below.refl _ w).alloc (È _) _).grown b Ż (by intro k hk;simp [Value.ownBlock]at hk;omega)
end Go.Ev
