/- A verified evaluator of the machine's code, part 4: no program in sight. -/
import Derived.Test.YtfpfjmahdneehaaGreatDoorEv3
import Derived.ChangeKeysEq
import Derived.ChangeArms
import Derived.WideShapes
import Derived.Carry
import Derived.Below
import Derived.IntWalk
import Derived.Lib.ItoaLen
import Derived.Lib.LaidTab
import Derived.Sort.Grow
import Derived.Deep.Draws
import Derived.Lib.Bytealg
import Derived.Lib.Strings
import Derived.Lib.AtoiErrMem
import Derived.Lib.AtoiBound
import Derived.Lib.Atoi
import GoSem.ClaimGoes
import Derived.KernelRfl
open Go.IntKind
namespace Go.Ev
def rC (t:TypeId):List (TypeId×TyI)→Option TyI
 | []=>none
 |(a,i)::r=>cond (Nat.beq a t) (some i) (rC t r)
def rD (P:Program):List Field→List (Nat×TypeId)→Bool
 | [],[]=>true
 |f::fs,(off,t)::r=>Nat.beq f.offset off&&(Nat.beq f.type t&&((match P.info? t with|some inf=> !(Nat.beq inf.size 0)|none=>false)&&rD P fs r))
 |_,_=>false
def Dv (P:Program) (t:TypeId):U→Bool
 |.bool=>match P.underlying t with|some .bool=>true|_=>false
 |.int k=>match P.underlying t with|some (.int k')=>decide (k'=k)|_=>false
 |.str=>match P.underlying t with|some .string=>true|_=>false
 |.slice e=>match P.underlying t with|some (.slice b)=>Nat.beq b e|_=>false
 |.struct fs=>match P.underlying t with|some (.struct fields)=>rD P fields.toList fs|_=>false
 |.ptr=>match P.underlying t with|some (.pointer _)=>true|_=>false
 |.func=>match P.underlying t with|some (.func _ _ _)=>true|_=>false
 |.iface=>match P.underlying t with|some (.interface _)=>true|_=>false
 |.other=>false
def Mz (u:U) (z:Value):Bool:=match u,z with
 |.struct _,.agg _=>true
 |.struct _,_=>false
 |_,z=>cz z
def MA (P:Program) (t:TypeId) (i:TyI):Bool:=match P.info? t with
 |some inf=>Nat.beq inf.size i.size&&(Nat.beq inf.bytes i.bytes&&(match inf.zero with|some z=>nW i.zero z.cells.toList&&Mz i.u z|none=>false))
 |none=>false
def MB (P:Program) (e:TypeId) (c:CT):Bool:=match P.info? e with
 |some inf=>Nat.beq inf.size (ak c).size&&(Nat.ble inf.bytes 1024&&((match inf.zero with|some z=>kC (ak c) z.cells.toList|none=>false)&&
   (match ak c with|.one (.int .u8)=>(match P.underlying e with|some (.int .u8)=>true|_=>false)|_=>true)))
 |none=>false
def MC (P:Program) (i:TyI):Bool:=match i.bq,i.u with
 |some (.one c),.slice e=> !bK c||MB P e c
 |_,_=>true
def eo:List CT→List Cell→Bool
 | [],[]=>true
 |c::cs,x::xs=>mD c x&&eo cs xs
 |_,_=>false
theorem MD: ∀(ts:aQ) (xs:List Cell),kA ts xs=eo ts.list xs
 |.one c,[x]=>by simp [kA,aQ.list,eo]
 |.one c,[]=>by simp [kA,aQ.list,eo]
 |.one c,_::_::_=>by simp [kA,aQ.list,eo]
 |.cons c cs,[]=>by simp [kA,aQ.list,eo]
 |.cons c cs,x::xs=>by simp only [kA,aQ.list,eo,MD cs xs]
theorem ME: ∀bs:List Bool,nL bs=bs.all id
 | []=>rfl
 | [b]=>by simp [nL]
 |b::c::bs=>by
  rw [nL,ME (c::bs)]
  ·rfl
  ·simp
def ua (P:Program) (rec:TypeId→List CT→Bool):Nat→List Field→List CT→Bool
 |_,[],cs=>cs.isEmpty
 |off,f::fs,cs=>Nat.beq f.offset off&&(f.name != "_" &&(match P.info? f.type with
  |some i=>rec f.type (cs.take i.size)&&ua P rec (off+i.size) fs (cs.drop i.size)
  |none=>false))
def mK (P:Program):Nat→TypeId→List CT→Bool
 |0,_,_=>false
 |n+1,t,cs=>match P.underlying t with
  |some .bool=>(match cs with| [.bool]=>true|_=>false)
  |some (.int _)=>(match cs with| [.int _]=>true|_=>false)
  |some .string=>(match cs with| [.str]=>true|_=>false)
  |some (.struct fields)=> !P.stoodInHeld t&&ua P (mK P n) 0 fields.toList cs
  |_=>false
def Dw (P:Program) (t:TypeId) (i:TyI):Bool:=
 !i.eq||(match i.bq,P.underlying t with|some ts,some (.struct _)=> !P.eqGuardType P.depth t&&mK P 20 t ts.list|_,_=>false)
def xJ (P:Program) (H:Heap) (R:Nat→Prop) (st:St) (θ:Asg) (t:TypeId) (xs:List Cell) (v:Value):Prop:=
 ((∃fs,P.underlying t=some (.struct fs))∧ ∃arr,v=.agg arr∧aH H R st θ xs arr.toList)∨((∀fs,P.underlying t≠some (.struct fs))∧ ∃x,xs=[x]∧aw H R st θ x v)
theorem aH.len {H:Heap} {R:Nat→Prop} {st:St} {θ:Asg}: ∀ {xs:List Cell} {vs:List Value},aH H R st θ xs vs→vs.length=xs.length
 | [],_,h=>by simp only [aH]at h;subst h;rfl
 |x::xs,vs,h=>by
  simp only [aH]at h;obtain⟨v,r,rfl, -,h⟩:=h;simp [aH.len h]
theorem aH.cut {H:Heap} {R:Nat→Prop} {st:St} {θ:Asg}: ∀ {xs:List Cell} {vs:List Value} (k:Nat),aH H R st θ xs vs→aH H R st θ (xs.take k) (vs.take k)∧aH H R st θ (xs.drop k) (vs.drop k)
 |xs,vs,0,h=>by simpa [aH]using h
 | [],vs,k+1,h=>by simp only [aH]at h;subst h;simp [aH]
 |x::xs,vs,k+1,h=>by
  simp only [aH]at h;obtain⟨v,r,rfl,d,b⟩:=h;simp only [List.take_succ_cons,List.drop_succ_cons,aH];exact⟨⟨v,_,rfl,d,(aH.cut k b).1⟩,(aH.cut k b).2⟩
theorem qa: ∀ {cs:List CT} {xs:List Cell} (k:Nat),eo cs xs=true→eo (cs.take k) (xs.take k)=true∧eo (cs.drop k) (xs.drop k)=true
 |cs,xs,0,h=>by simpa [eo]using h
 | [],[],k+1,h=>by simp [eo]
 | [],_::_,k+1,h=>by simp [eo]at h
 |_::_,[],k+1,h=>by simp [eo]at h
 |c::cs,x::xs,k+1,h=>by
  simp only [eo,Bool.and_eq_true]at h;simp only [List.take_succ_cons,List.drop_succ_cons,eo,Bool.and_eq_true];exact⟨⟨h.1,(qa k h.2).1⟩,(qa k h.2).2⟩
theorem MF: ∀ {xs ys:List Cell} {bs:List Bool} (k:Nat),eT xs ys=some bs→ ∃d f,bs=d++f∧eT (xs.take k) (ys.take k)=some d∧eT (xs.drop k) (ys.drop k)=some f
 |xs,ys,bs,0,h=>⟨[],bs,rfl,by simp [eT],by simpa using h⟩
 | [],[],bs,k+1,h=>by simp only [eT,Option.some.injEq]at h;subst h;exact⟨[],[],rfl,by simp [eT],by simp [eT]⟩
 | [],_::_,bs,k+1,h=>by simp [eT]at h
 |_::_,[],bs,k+1,h=>by simp [eT]at h
 |x::xs,y::ys,bs,k+1,h=>by
  simp only [eT]at h;cases e:tz x y with
  |none=>rw [e]at h;cases h
  |some b=>
   cases g:eT xs ys with
   |none=>rw [e,g]at h;cases h
   |some c=>
    rw [e,g]at h;cases h;obtain⟨d,f,i,j,m⟩:=MF k g;exact⟨b::d,f,by rw [i];rfl,by simp [eT,e,j],by simpa using m⟩
theorem MG {P:Program} {t:TypeId} {i:TypeInfo} (hi:P.info? t=some i) {H:Heap} {R:Nat→Prop} {st:St} {θ:Asg} {vs:Array Value} {off:Nat} {xs:List Cell} {n:Nat} {cs:List CT} (f:mK P n t (cs.take i.size)=true)
  (s:eo cs xs=true) (h:aH H R st θ xs (vs.toList.drop off)) (w:World): ∃v,(part t vs off).run P w=.ok v w∧xJ P H R st θ t (xs.take i.size) v:=by
 have j:=(h.cut i.size).1;have b:=(qa i.size s).1;cases n with
 |zero=>simp [mK]at f
 |succ n=>
  have basic:(∀fs,P.underlying t≠some (.struct fs))→P.plainKey t=true→(∃c,cs.take i.size=[c])→ ∃v,(part t vs off).run P w=.ok v w∧xJ P H R st θ t (xs.take i.size) v:=by
   rintro m hp ⟨c,p⟩
   rw [p]at b;obtain⟨x,q⟩: ∃x,xs.take i.size=[x]:=by
    match hq:xs.take i.size,b with
    | [x],_=>exact⟨x,rfl⟩
    | [],b=>simp [eo]at b
    |_::_::_,b=>simp [eo]at b
   rw [q]at j;simp only [aH]at j;obtain⟨v,r,e,u,rfl⟩:=j;have z:vs[off]? =some v:=by
    rw [←Array.getElem?_toList]
    have k:=congrArg (·[0]?) e
    simp only [List.getElem?_cons_zero,List.getElem?_take,List.getElem?_drop,Nat.add_zero]at k
    split at k
    ·exact k
    ·cases k
   exact⟨v,run_part_plain w hp z,.inr ⟨m,x,q,u.1⟩⟩
  have g: ∀d,P.underlying t=some d→(match d with|.bool|.int _|.string=>true|_=>false)=true→P.plainKey t=true:=fun d hd hm=>by
   unfold Program.plainKey;rw [hd];cases d<;>simp_all
  unfold mK at f;split at f
  ·rename_i hu
   split at f
   ·rename_i e;exact basic (by rw [hu];simp) (g _ hu rfl) ⟨_,e⟩
   ·cases f
  ·rename_i hu
   split at f
   ·rename_i e;exact basic (by rw [hu];simp) (g _ hu rfl) ⟨_,e⟩
   ·cases f
  ·rename_i hu
   split at f
   ·rename_i e;exact basic (by rw [hu];simp) (g _ hu rfl) ⟨_,e⟩
   ·cases f
  ·rename_i fields hu
   refine⟨.agg (vs.extract off (off+i.size)), ?_,.inl ⟨⟨fields,hu⟩,_,rfl, ?_⟩⟩
   ·simp [part,isAgg,run_underlying hu,sizeOf,run_typeInfo w hi]
   ·have e:(vs.extract off (off+i.size)).toList=(vs.toList.drop off).take i.size:=by
     rw [Array.toList_extract];simp [List.extract]
    rw [e];exact j
  ·cases f
theorem MH {P:Program} {H:Heap} {R:Nat→Prop} {st:St} {θ:Asg} {w:World}: ∀(n:Nat) (t:TypeId) (cs:List CT),mK P n t cs=true→ ∀(d:Nat),n≤d→ ∀(v u:Value) (xs ys:List Cell) (bs:List Bool),
  eo cs xs=true→eo cs ys=true→eT xs ys=some bs→xJ P H R st θ t xs v→xJ P H R st θ t ys u→(Op.equalIn d t v u).run P w=.ok (bs.all id) w
 |0,_,_,h,_,_,_,_,_,_,_,_,_,_,_,_=>by simp [mK]at h
 |n+1,t,cs,h,d,hd,v,u,xs,ys,bs,g,hy,j,rx,b=>by
  obtain⟨d,rfl⟩: ∃d',d=d'+1:=⟨d-1,by omega⟩
  unfold mK at h;split at h
  ·rename_i hu
   split at h
   ·rcases rx with⟨⟨fs,e⟩, -⟩|⟨-,x,rfl,rx⟩
    ·rw [hu]at e;cases e
    rcases b with⟨⟨fs,e⟩, -⟩|⟨-,y,rfl,b⟩
    ·rw [hu]at e;cases e
    simp only [eo,Bool.and_true]at g hy;cases x<;>simp only [mD,Bool.false_eq_true]at g
    cases y<;>simp only [mD,Bool.false_eq_true]at hy
    simp only [eT,tz,Option.some.injEq]at j;simp only [aw]at rx b;rw [rx,b,←j,run_equalIn_bool' w d _ _ _ hu];simp
   ·cases h
  ·rename_i hu
   split at h
   ·rcases rx with⟨⟨fs,e⟩, -⟩|⟨-,x,rfl,rx⟩
    ·rw [hu]at e;cases e
    rcases b with⟨⟨fs,e⟩, -⟩|⟨-,y,rfl,b⟩
    ·rw [hu]at e;cases e
    simp only [eo,Bool.and_true]at g hy;cases x<;>simp only [mD,Bool.false_eq_true]at g
    cases y<;>simp only [mD,Bool.false_eq_true]at hy
    have g:=of_decide_eq_true g;have hy:=of_decide_eq_true hy;subst g;subst hy;simp only [eT,tz,decide_true,Y,Option.some.injEq]at j;simp only [aw]at rx b;rw [rx.1,b.1,←j,run_equalIn_int w d _ _ _ _ _ hu];simp
   ·cases h
  ·rename_i hu
   split at h
   ·rcases rx with⟨⟨fs,e⟩, -⟩|⟨-,x,rfl,rx⟩
    ·rw [hu]at e;cases e
    rcases b with⟨⟨fs,e⟩, -⟩|⟨-,y,rfl,b⟩
    ·rw [hu]at e;cases e
    simp only [eo,Bool.and_true]at g hy;cases x<;>simp only [mD,Bool.false_eq_true]at g
    cases y<;>simp only [mD,Bool.false_eq_true]at hy
    simp only [eT,tz,Option.some.injEq]at j;simp only [aw]at rx b;rw [rx.1,b.1,←j,run_equalIn_string w d _ _ _ hu,ByteArray.toList_eq,ByteArray.toList_eq];simp
   ·cases h
  ·rename_i fields hu
   simp only [Bool.and_eq_true,Bool.not_eq_true']at h;obtain⟨q,r⟩:=h;have s: ∃arr,v=.agg arr∧aH H R st θ xs arr.toList:=by
    rcases rx with⟨-,h⟩|⟨e, -⟩
    ·exact h
    ·exact absurd hu (e _)
   have z: ∃arr,u=.agg arr∧aH H R st θ ys arr.toList:=by
    rcases b with⟨-,h⟩|⟨e, -⟩
    ·exact h
    ·exact absurd hu (e _)
   clear rx b;obtain⟨vs,rfl,rx⟩:=s;obtain⟨us,rfl,b⟩:=z;have m:P.fieldsOf t=fields:=by unfold Program.fieldsOf;rw [hu]
   rw [run_equalIn_struct w d t vs us (by rw [m];exact hu) q,m]
   have key: ∀(fs:List Field) (off:Nat) (cs:List CT) (xs ys:List Cell) (bs:List Bool),ua P (mK P n) off fs cs=true→eo cs xs=true→eo cs ys=true→eT xs ys=some bs→
     aH H R st θ xs (vs.toList.drop off)→aH H R st θ ys (us.toList.drop off)→(Op.eqFields d vs us fs).run P w=.ok (bs.all id) w:=by
    intro fs;induction fs with
    |nil=>
     intro off cs xs ys bs p g hy j _ _;simp only [ua,List.isEmpty_iff]at p;subst p;cases xs with
     |cons _ _=>simp [eo]at g
     |nil=>
      cases ys with
      |cons _ _=>simp [eo]at hy
      |nil=>simp only [eT,Option.some.injEq]at j;subst j;simp [Op.eqFields]
    |cons f fs ih=>
     intro off cs xs ys bs p g hy j rx b;simp only [ua,Bool.and_eq_true,bne_iff_ne,ne_eq]at p;obtain⟨h1,h2,k⟩:=p;split at k
     ·rename_i i hi
      simp only [Bool.and_eq_true]at k;have h1:=Nat.eq_of_beq_eq_true h1;obtain⟨v,pv,rv⟩:=MG hi k.1 g rx w;obtain⟨u,pu,ru⟩:=MG hi k.1 hy b w;obtain⟨b1,b2,rfl,e1,e2⟩:=MF i.size j;have k1:=MH (w:=w) n f.type _ k.1 d (by omega) v u _ _ b1 (qa i.size g).1 (qa i.size hy).1 e1 rv ru
      have dr: ∀zs:Array Value,(zs.toList.drop off).drop i.size=zs.toList.drop (off+i.size):=fun zs=>by rw [List.drop_drop]
      have k2:=ih (off+i.size) _ _ _ b2 k.2 (qa i.size g).2 (qa i.size hy).2 e2 (by rw [←dr];exact(rx.cut i.size).2) (by rw [←dr];exact(b.cut i.size).2)
      rw [←h1]at pv pu;simp only [Op.eqFields,if_pos h2,Sem.run_bind,pv,Result.andThen_ok,pu,k1,List.all_append];cases b1.all id
      ·simp
      ·simp [k2]
     ·cases k
   exact key fields.toList 0 cs xs ys bs r g hy j (by simpa using rx) (by simpa using b)
  ·cases h
theorem XW {P:Program} {t:TypeId} {i:TyI} (h:Dw P t i=true) (he:i.eq=true) (ts:aQ) (b:i.bq=some ts):KX P t ts:=by
 unfold Dw at h;rw [he,b]at h;simp only [Bool.not_true,Bool.false_or]at h;split at h
 ·rename_i fields g d
  cases g;simp only [Bool.and_eq_true,Bool.not_eq_true']at h;obtain⟨j,k⟩:=h;refine⟨j,fun xs ys vs us bs w H R st θ f hy m rx p=> ?_⟩
  rw [MD]at f hy;rw [Op.equal,ME];exact MH 20 t _ k _ (by unfold Op.maxDepth;omega) _ _ xs ys bs f hy m (.inl ⟨⟨_,d⟩,vs,rfl,rx⟩) (.inl ⟨⟨_,d⟩,us,rfl,p⟩)
 ·cases h
def Dx (P:Program) (t:TypeId) (i:TyI):Bool:=
 MA P t i&&(Dv P t i.u&&(MC P i&&((match i.u with|.struct _=>true|_=>Nat.beq i.size 1)&&Dw P t i)))
theorem MI {P:Program}: ∀ {fs:List Field} {r:List (Nat×TypeId)},rD P fs r=true→fs.length=r.length∧ ∀(i off:Nat) (t:TypeId),r[i]? =some (off,t)→ ∃f:Field,fs[i]? =some f∧f.offset=off∧f.type=t∧ ∃inf,P.info? t=some inf∧inf.size≠0
 | [],[],_=>⟨rfl,by simp⟩
 | [],_::_,h=>by simp [rD]at h
 |_::_,[],h=>by simp [rD]at h
 |f::fs,(off,t)::r,h=>by
  simp only [rD,Bool.and_eq_true]at h;obtain⟨g,j,d,k⟩:=h;obtain⟨k1,k2⟩:=MI k;refine⟨by simp [k1],fun i o u hi=> ?_⟩
  cases i with
  |zero=>
   simp only [List.getElem?_cons_zero,Option.some.injEq,Prod.mk.injEq]at hi
   obtain⟨rfl,rfl⟩:=hi;refine⟨f,rfl,Nat.eq_of_beq_eq_true g,Nat.eq_of_beq_eq_true j, ?_⟩
   split at d
   ·rename_i inf b
    exact⟨inf,b,fun e=>by rw [e]at d;simp at d⟩
   ·cases d
  |succ i=>exact k2 i o u (by simpa using hi)
theorem XX {P:Program} {t:TypeId} {u:U} (h:Dv P t u=true):lD P t u:=by
 cases u<;>simp only [Dv]at h<;>simp only [lD]
 case bool=>split at h<;>simp_all
 case int k=>split at h<;>simp_all
 case str=>split at h<;>simp_all
 case slice e=>
  split at h
  ·rename_i m he;rw [he,Nat.eq_of_beq_eq_true h]
  ·cases h
 case struct fs=>
  split at h
  ·rename_i fields d
   obtain⟨g,j⟩:=MI h;refine⟨fields,d,by simpa using g,fun i off t hi=> ?_⟩
   obtain⟨f,k1,k2⟩:=j i off t hi;exact⟨f,by simpa using k1,k2⟩
  ·cases h
 case ptr=>
  split at h
  ·rename_i e he;exact⟨e,he⟩
  ·cases h
 case func=>
  split at h
  ·rename_i a b c he;exact⟨a,b,c,he⟩
  ·cases h
 case iface=>
  split at h
  ·rename_i e he;exact⟨e,he⟩
  ·cases h
 case other=>cases h
theorem XY {P:Program} {T:TypeId→Option TyI} {t:TypeId} {i:TyI} (h:Dx P t i=true):nX P T t i:=by
 simp only [Dx,Bool.and_eq_true]at h;obtain⟨f,q,d,p,r⟩:=h;refine⟨?_,XX q,fun c s hs e he=> ?_, ?_,fun he ts j=>XW r he ts j⟩
 ·unfold MA at f
  split at f
  ·rename_i inf b
   simp only [Bool.and_eq_true]at f;obtain⟨k1,k2,k3⟩:=f;split at k3
   ·rename_i z m
    simp only [Bool.and_eq_true]at k3;refine⟨inf,z,b,Nat.eq_of_beq_eq_true k1,Nat.eq_of_beq_eq_true k2,m,k3.1, ?_⟩
    have k:=k3.2;unfold Mz at k;cases hu:i.u<;>rw [hu]at k<;>cases z<;>simp_all
   ·cases k3
  ·cases f
 ·unfold MC at d
  rw [s,he]at d;simp only [hs,Bool.not_true,Bool.false_or]at d;unfold MB at d;split at d
  ·rename_i inf b
   simp only [Bool.and_eq_true]at d;obtain⟨k1,k2,k3,g⟩:=d;split at k3
   ·rename_i z m
    refine⟨inf,z,b,Nat.eq_of_beq_eq_true k1,Nat.le_of_ble_eq_true k2,m,k3, ?_⟩
    split
    ·rename_i heq
     rw [heq]at g;simp only at g;split at g
     ·assumption
     ·cases g
    ·trivial
   ·cases k3
  ·cases d
 ·split
  ·trivial
  ·split at p
   ·rename_i h _ _ hh;exact absurd hh (h _)
   ·exact Nat.eq_of_beq_eq_true p
def ub (P:Program):List (TypeId×TyI)→Bool
 | []=>true
 |(t,i)::r=>Dx P t i&&ub P r
theorem MJ {P:Program} {T:TypeId→Option TyI} {t:TypeId} {i:TyI}: ∀ {l:List (TypeId×TyI)},ub P l=true→rC t l=some i→nX P T t i
 | [],_,h=>by simp [rC]at h
 |(a,j)::r,h,b=>by
  simp only [ub,Bool.and_eq_true]at h;simp only [rC]at b;cases d:Nat.beq a t with
  |true=>
   rw [d]at b;simp only [Y,Option.some.injEq]at b;subst b;rw [←Nat.eq_of_beq_eq_true d];exact XY h.1
  |false=>rw [d]at b;exact MJ h.2 b
end Go.Ev
namespace Go.Ev
def uc:List Entry→Entry→Nat→Entry
 | [],d,_=>d
 |x::_,_,0=>x
 |_::r,d,n+1=>uc r d n
theorem Dy {p:Entry→Prop} {d:Entry} (hd:p d): ∀(l:List Entry) (_: ∀x∈l,p x) (e:Nat),p (uc l d e)
 | [],_,_=>hd
 |x::_,h,0=>h x (by simp)
 |_::r,h,n+1=>Dy hd r (fun x b=>h x (by simp [b])) n
def MK (f:FuncId):List (FuncId×List Nat)→List Nat
 | []=>[]
 |(a,l)::r=>cond (Nat.beq a f) l (MK f r)
structure xK (P:Program) (E:Entry):Prop where
 entry:jW E=true
 fn:tZ E=true
 f:P.funcs[E.f]? =some E.fn
 name:(E.fn.name== "runtime.NumGoroutine")=false
 body:E.fn.body.isNone=false
structure dG (P:Program) (l:List Entry):Prop where
 ok: ∀x∈l,xK P x
theorem dG.nil {P:Program}:dG P []:=⟨by simp⟩
theorem dG.cons {P:Program} {x:Entry} {l:List Entry} (h:xK P x) (b:dG P l):dG P (x::l):=⟨fun y hy=>by
 rcases List.mem_cons.1 hy with rfl|hy
 ·exact h
 ·exact b.ok y hy⟩
theorem XZ {P:Program} {gl:bD} {eM:List (TypeId×TyI)} {l:List Entry} {d:Entry} (b:P.follows .mixedOrders=true) (g:ub P eM=true) (hd:xK P d) (i:dG P l)
  (hp: ∀x∈d::l,∀p,x.bW=some p→ ∀ds r,p ds=some r→cV P gl x ds r):Du P gl (fun t=>rC t eM) (uc l d):=
 have all: ∀e,xK P (uc l d e):=Dy hd l i.ok
 ⟨⟨fun _ _ h=>MJ g h,b⟩,b,fun e=>(all e).entry,fun e=>(all e).fn,fun e=>(all e).f,fun e=>(all e).name,fun e=>(all e).body,
  fun e=>Dy (p:=fun x=> ∀p,x.bW=some p→ ∀ds r,p ds=some r→cV P gl x ds r) (hp d (by simp)) l (fun x j=>hp x (by simp [j])) e⟩
noncomputable def qb:Code→Nat→Code
 |.seq a b,id=>match qb a id with|.skip=>qb b id|c=>c
 |.cond _ a b,id=>match qb a id with|.skip=>qb b id|c=>c
 |.block i (.loop c),id=>cond (Nat.beq i id) c (qb c id)
 |.block _ c,id=>qb c id
 |_,_=>.skip
noncomputable def Ya (T:TypeId→Option TyI) (call:FuncId→List TV→Nat→M TV) (e:Entry) (n id:Nat) (x:cG×cG×List CT) (self:List DV→Option (Sum (bL x.2.2) (bL e.bG))) (ds:List DV):Option (Sum (bL x.2.2) (bL e.bG)):=
 qY x.1 ds fun st=>eB T call e n (qb (e.fn.body.getD .skip) id) st
  ⟨fun st=>pJ x.1 st self,fun i st=>cond (Nat.beq i id) (pJ x.2.1 st fun ds=>(eF x.2.2 ds).bind fun x=>some (.inl x)) none,
   fun st=>pN T e ⟨fun _=>none,fun _ _=>none,fun _=>none,fun r=>some (.inr r)⟩ st,fun r=>some (.inr r)⟩
noncomputable def Yb (T:TypeId→Option TyI) (call:FuncId→List TV→Nat→M TV) (e:Entry) (n id:Nat) (x:cG×cG×List CT):Nat→List DV→Option (Sum (bL x.2.2) (bL e.bG)):=
 iter id (Ya T call e n id x)
end Go.Ev
namespace Go.Ev
def Typed:List CT→List DV→Prop
 | [],ds=>ds=[]
 |c::cs,ds=> ∃x b,ds=⟨c,x⟩::b∧Typed cs b
theorem Typed.append: ∀ {cs d:List CT} {ds b:List DV},Typed cs ds→Typed d b→Typed (cs++d) (ds++b)
 | [],_,ds,_,h,f=>by simp only [Typed]at h;subst h;exact f
 |c::cs,d,ds,b,h,f=>by
  simp only [Typed]at h;obtain⟨x,r,rfl,h⟩:=h;exact⟨x,r++b,rfl,Typed.append h f⟩
def aX.fit:aX→Prop
 |.b _=>True
 |.i k n=>k.min≤n∧n≤k.max
 |.s x=>x.length≤maxLen
 |.l sz cs=>0<sz∧cs.length≤maxLen*sz∧fits cs
where fits:List aX→Prop
 | []=>True
 |d::ds=>d.fit∧fits ds
section
variable {H:Heap} {R:Nat→Prop} {own:Bool}
theorem ar.Dz: ∀ {ds f:List aX} {vs b:List Value},ar H R own ds vs []→ar H R own f b []→ar H R own (ds++f) (vs++b) []
 | [],_,vs,_,h,i=>by simp only [ar]at h;rw [h.1];exact i
 |d::ds,f,vs,b,h,i=>by
  simp only [ar]at h;obtain⟨v,r,f1,f2,rfl,g,j,k⟩:=h;have g:=(List.append_eq_nil_iff.1 g.symm);rw [g.2]at k;rw [g.1]at j;simp only [List.cons_append,ar];exact⟨v,r++b,[],[],rfl,rfl,j,ar.Dz k i⟩
mutual
theorem aC.fit: ∀ {d:aX} {v:Value} {fp:List Nat},aC H R false d v fp→d.fit
 |.b _,_,_,_=>by simp [aX.fit]
 |.i _ _,_,_,h=>by simp only [aC]at h;simp only [aX.fit];exact h.2.1
 |.s _,_,_,h=>by simp only [aC]at h;simp only [aX.fit];exact h.2.1
 |.l sz cs,_,_,h=>by
  simp only [aC]at h;obtain⟨a,len,cap, -,m,f,j,p,k⟩:=h;simp only [aX.fit];refine⟨m,by rw [f];exact Nat.mul_le_mul_right _ (Nat.le_trans j p), ?_⟩
  rcases k with⟨h, -⟩|⟨-, -,k⟩
  ·cases h
  ·rcases k with rfl|⟨g,off,cur,ty,frz, -, -, -, -,q⟩
   ·simp [aX.fit.fits]
   ·exact ar.fits q
theorem ar.fits: ∀ {ds:List aX} {vs:List Value} {fp:List Nat},ar H R false ds vs fp→aX.fit.fits ds
 | [],_,_,_=>by simp [aX.fit.fits]
 |d::ds,_,_,h=>by
  simp only [ar]at h;obtain⟨v,r,f1,f2, -, -,f,j⟩:=h;simp only [aX.fit.fits];exact⟨aC.fit f,ar.fits j⟩
end
end
theorem ML: ∀ {ts:aQ} {ds:List DV},Typed ts.list ds→ ∃x:aZ ts,bF ts x=ds.map fun d=>enc d.c d.x
 |.one c,ds,h=>by
  simp only [aQ.list,Typed]at h;obtain⟨x,r,rfl,rfl⟩:=h;exact⟨x,by simp [bF]⟩
 |.cons c cs,ds,h=>by
  simp only [aQ.list,Typed]at h;obtain⟨x,r,rfl,h⟩:=h;obtain⟨y,hy⟩:=ML h;exact⟨(x,y),by simp [bF,hy]⟩
theorem ud: ∀(ts:aQ) (x:aZ ts),(bF ts x).length=ts.size
 |.one _,_=>rfl
 |.cons _ cs,x=>by simp [bF,aQ.size,ud cs x.2]
def iz (S:List (TypeId×List CT)) (t:TypeId) (bq:List CT):Bool:=S.any fun p=>Nat.beq p.1 t&&mL p.2 bq
where mL:List CT→List CT→Bool
 | [],[]=>true
 |a::as,b::bs=>CT.beq a b&&mL as bs
 |_,_=>false
theorem uf: ∀ {a b:List CT},iz.mL a b=true→a=b
 | [],[],_=>rfl
 | [],_::_,h=>by simp [iz.mL]at h
 |_::_,[],h=>by simp [iz.mL]at h
 |a::as,b::bs,h=>by
  simp only [iz.mL,Bool.and_eq_true]at h;rw [CT.eq_of_beq _ _ h.1,uf h.2]
theorem DA {S:List (TypeId×List CT)} {t:TypeId} {bq:List CT} (h:iz S t bq=true):(t,bq)∈S:=by
 simp only [iz,List.any_eq_true,Bool.and_eq_true]at h;obtain⟨p,hp,b,d⟩:=h;have f:=Nat.eq_of_beq_eq_true b;have g:=uf d;rw [←f,←g];exact hp
def ug (S:List (TypeId×List CT)) (P:Program):Nat→List Field→List CT→Bool
 |_,[],bq=>bq.isEmpty
 |off,f::fs,bq=>Nat.beq f.offset off&&(Nat.ble (P.cellsOf f.type) bq.length&&(iz S f.type (bq.take (P.cellsOf f.type))&&ug S P (off+P.cellsOf f.type) fs (bq.drop (P.cellsOf f.type))))
def xL (S:List (TypeId×List CT)) (P:Program) (t:TypeId) (bq:List CT):Bool:=
 match P.underlying t with
 |some .bool=>iz.mL bq [.bool]
 |some (.int k)=>iz.mL bq [.int k]
 |some .string=>iz.mL bq [.str]
 |some (.slice e)=>match bq with
  | [.sl ts]=>iz S e ts.list&&Nat.beq (P.cellsOf e) ts.size
  |_=>false
 |some (.struct fs)=>ug S P 0 fs.toList bq&&Nat.beq (P.cellsOf t) bq.length
 |_=>false
def om (S:List (TypeId×List CT)) (P:Program):List (TypeId×List CT)→Bool
 | []=>true
 |(t,bq)::r=>xL S P t bq&&om S P r
theorem MM {S:List (TypeId×List CT)} {P:Program}: ∀ {l:List (TypeId×List CT)},om S P l=true→ ∀p∈l,xL S P p.1 p.2=true
 | [],_,p,hp=>by cases hp
 |(t,bq)::r,h,p,hp=>by
  simp only [om,Bool.and_eq_true]at h;rcases List.mem_cons.1 hp with rfl|hp
  ·exact h.1
  ·exact MM h.2 p hp
theorem size_pos: ∀(ts:aQ),0<ts.size
 |.one _=>Nat.one_pos
 |.cons _ _=>Nat.succ_pos _
section
variable {E:Type} {en:TypeId×Value→E} {P:Program} {w:World} {sp:Nat→Bool} {held:Bool} {S:List (TypeId×List CT)}
def lI (w:World) (b:Nat):Prop:=b<w.heap.size
def Reads (w:World) (bq:List CT) (cs:List Value):Prop:= ∃ds,Typed bq ds∧ar (hp w) (lI w) false (ds.map fun d=>enc d.c d.x) cs []
theorem MN {n:Nat} (g: ∀t bq,(t,bq)∈S→ ∀fuel cs (x:DataW E×List MemPlace),fuel<n→DataW.trod en P w 0 sp held fuel t cs=some x→Reads w bq cs) {fuel:Nat} (k:fuel<n) (all:List Value):
  ∀(fs:List Field) (off:Nat) (bq:List CT) (_:List (DataW E×List MemPlace)),ug S P off fs bq=true→off+bq.length≤all.length→
   (∀f∈fs,∃x,DataW.trod en P w 0 sp held fuel f.type ((all.drop f.offset).take (P.cellsOf f.type))=some x)→Reads w bq ((all.drop off).take bq.length)
 | [],off,bq,xs,h,p,b=>by
  simp only [ug,List.isEmpty_iff]at h;subst h;exact⟨[],rfl,by simp [ar]⟩
 |f::fs,off,bq,xs,h,p,b=>by
  simp only [ug,Bool.and_eq_true]at h;obtain⟨d,m,q,r⟩:=h;have d:=Nat.eq_of_beq_eq_true d;have m:=Nat.le_of_ble_eq_true m;obtain⟨x,s⟩:=b f (by simp)
  obtain⟨ds,k1,k2⟩:=g _ _ (DA q) fuel _ x k s;obtain⟨i,u,z⟩:=MN g k all fs (off+P.cellsOf f.type) (bq.drop (P.cellsOf f.type)) xs r (by simp;omega) (fun f' j=>b f' (by simp [j]))
  refine⟨ds++i, ?_, ?_⟩
  ·have:=k1.append u
   rwa [List.take_append_drop]at this
  ·rw [List.map_append]
   rw [d]at k2;have e:(all.drop off).take bq.length=(all.drop off).take (P.cellsOf f.type)++(all.drop (off+P.cellsOf f.type)).take (bq.drop (P.cellsOf f.type)).length:=by
    rw [←List.drop_drop];conv=>lhs;rw [show bq.length=P.cellsOf f.type+(bq.drop (P.cellsOf f.type)).length from by simp;omega]
    rw [List.take_add]
   rw [e];exact k2.Dz z
theorem MO {a:Addr} {n:Nat} {cs:List Value} (h:w.cells? 0 a n=some cs):cs.length=n∧ ∀j,j<n→w.cell? (a.add j)=cs[j]? :=by
 unfold World.cells? at h;rw [if_pos (Nat.zero_le _)]at h;refine⟨by simpa using mapM_some_length h,fun j hj=>mapM_some_get h j j (by simp [hj])⟩
theorem xM {g off:Nat} {cur:Array Value} {ty:TypeId} {frz:Nat×Nat} (d:hp w g=some (.cells cur ty frz)) (j:Nat):w.cell? ((⟨g,off,none⟩:Addr).add j)=cur.toList[off+j]? :=by
 have b:w.heap[g]? =some (.cells cur ty frz):=d;unfold Addr.add;split
 ·rename_i h;subst h;simp [World.cell?,b]
 ·simp [World.cell?,b]
theorem add_add (g off i j:Nat):((⟨g,off,none⟩:Addr).add i).add j=(⟨g,off,none⟩:Addr).add (i+j):=by
 unfold Addr.add;by_cases hi:i=0<;>by_cases hj:j=0<;>simp [hi,hj,Nat.add_assoc]
theorem DB (hS:om S P S=true): ∀(n:Nat) (t:TypeId) (bq:List CT),(t,bq)∈S→ ∀fuel cs (x:DataW E×List MemPlace),fuel<n→DataW.trod en P w 0 sp held fuel t cs=some x→Reads w bq cs
 |0,_,_,_,_,_,_,hf,_=>absurd hf (Nat.not_lt_zero _)
 |n+1,t,bq,hm,fuel,cs,x,hf,z=>by
  have d:xL S P t bq=true:=MM hS _ hm;unfold xL at d;split at d
  ·rename_i hu
   obtain⟨b,rfl, -⟩:=DataW.trod_bool hu z;rw [uf d];exact⟨[⟨.bool,b⟩],⟨b,[],rfl,rfl⟩,by simp only [List.map_cons,List.map_nil,ar,aC,enc];exact⟨_,[],[],[],rfl,rfl,⟨rfl,rfl⟩,rfl,rfl⟩⟩
  ·rename_i k hu
   obtain⟨m,rfl, -,hw⟩:=DataW.trod_int hu z;rw [uf d];simp only [Lit.wf,Bool.and_eq_true,decide_eq_true_eq]at hw;refine⟨[⟨.int k,tp k m⟩],⟨_,[],rfl,rfl⟩, ?_⟩
   simp only [List.map_cons,List.map_nil,ar,aC,enc];exact⟨_,[],[],[],rfl,rfl,⟨by rw [tR hw],by rw [tR hw];exact hw,rfl⟩,rfl,rfl⟩
  ·rename_i hu
   obtain⟨s,rfl, -,hs⟩:=DataW.trod_string hu z;rw [uf d];refine⟨[⟨.str,s.data.toList⟩],⟨_,[],rfl,rfl⟩, ?_⟩
   simp only [List.map_cons,List.map_nil,ar,aC,enc];exact⟨_,[],[],[],rfl,rfl,⟨rfl,by simpa using hs,rfl⟩,rfl,rfl⟩
  ·rename_i e hu
   split at d
   ·rename_i ts
    simp only [Bool.and_eq_true]at d;have he:=DA d.1;have al:=Nat.eq_of_beq_eq_true d.2;have p:=size_pos ts;rcases DataW.trod_slice hu z with⟨rfl, -⟩|⟨a,len,cap,elems,rest,m,rfl,rfl, -, -,af,ag,hlen,ao, -, -⟩
    ·exact⟨[⟨.sl ts,[]⟩],⟨_,[],rfl,rfl⟩,by simp only [List.map_cons,List.map_nil,ar,aC,enc];exact⟨_,[],[],[],rfl,rfl,⟨none,0,0,rfl,p,by simp,Nat.le_refl _,Nat.zero_le _,.inr ⟨trivial,rfl,.inl rfl⟩⟩,rfl,rfl⟩⟩
    ·have q: ∀i,i<len→ ∃cs,w.cells? 0 (a.add (i*ts.size)) ts.size=some cs∧Reads w ts.list cs:=fun i hi=>by
      have:=ao i hi;rw [al,List.getElem?_eq_getElem (by omega)]at this
      rw [Option.bind_eq_some_iff]at this;obtain⟨cs,k1,k2⟩:=this;exact⟨cs,k1,DB hS n e _ he m cs _ (by omega) k2⟩
     by_cases h0:len=0
     ·subst h0
      refine⟨[⟨.sl ts,[]⟩],⟨_,[],rfl,rfl⟩, ?_⟩
      simp only [List.map_cons,List.map_nil,ar,aC,enc];exact⟨_,[],[],[],rfl,rfl,⟨some a,0,cap,rfl,p,by simp,af,ag,.inr ⟨trivial,rfl,.inl rfl⟩⟩,rfl,rfl⟩
     ·obtain⟨cs0,c1, -⟩:=q 0 (by omega)
      obtain⟨l0,g0⟩:=MO c1;have h:=g0 0 p;rw [List.getElem?_eq_getElem (by omega)]at h
      have aq:(a.add (0*ts.size)).add 0=a:=by simp [Addr.add]
      rw [aq]at h;obtain⟨g,cur,ty,frz,hg,ad⟩: ∃g cur ty frz,hp w g=some (.cells cur ty frz)∧a=⟨g,a.off,none⟩:=by
       unfold World.cell? at h;split at h
       ·rename_i c ty frz hc
        split at h
        ·cases h
        ·rename_i ad
         refine⟨a.block,c,ty,frz,hc, ?_⟩
         cases a with
         |mk b o s=>
          simp only [Addr.mk.injEq,true_and];cases s with
          |none=>rfl
          |some _=>simp at ad
       ·cases h
      obtain⟨off,ah⟩: ∃off,off=a.off:=⟨_,rfl⟩
      rw [←ah]at ad;subst ad;have ai: ∀i,i<len→ ∃x:aZ ts,off+(i+1)*ts.size≤cur.size∧ar (hp w) (lI w) false (bF ts x) ((cur.toList.drop (off+i*ts.size)).take ts.size) []:=fun i hi=>by
       obtain⟨cs,k1,ds,k2,k3⟩:=q i hi;obtain⟨j1,j2⟩:=MO k1;obtain⟨x,z⟩:=ML k2;have r: ∀j,j<ts.size→cur.toList[off+i*ts.size+j]? =cs[j]? :=fun j hj=>by
        rw [←j2 j hj,add_add,xM hg,Nat.add_assoc]
       have u:=r (ts.size-1) (by omega)
       rw [List.getElem?_eq_getElem (i:=ts.size-1) (by omega)]at u
       obtain⟨av, -⟩:=List.getElem?_eq_some_iff.1 u
       simp only [Array.length_toList]at av;refine⟨x,by rw [Nat.add_mul];omega, ?_⟩
       have e:(cur.toList.drop (off+i*ts.size)).take ts.size=cs:=by
        apply List.ext_getElem?
        intro j;by_cases hj:j<ts.size
        ·rw [List.getElem?_take,if_pos hj,List.getElem?_drop,r j hj]
        ·rw [List.getElem?_take,if_neg hj,List.getElem?_eq_none (by omega)]
       rw [e,z];exact k3
      have aj: ∀k,k≤len→ ∃xs:List (aZ ts),xs.length=k∧ar (hp w) (lI w) false (xs.flatMap (bF ts)) ((cur.toList.drop off).take (k*ts.size)) []:=by
       intro k;induction k with
       |zero=>intro _;exact⟨[],rfl,by simp [ar]⟩
       |succ k ih=>
        intro hk;obtain⟨xs,q1,q2⟩:=ih (by omega)
        obtain⟨x,q3,q4⟩:=ai k (by omega)
        refine⟨xs++[x],by simp [q1], ?_⟩
        rw [List.flatMap_append,Nat.add_mul,Nat.one_mul,List.take_add,List.drop_drop];exact q2.Dz (by simpa using q4)
      obtain⟨xs,q1,q2⟩:=aj len (Nat.le_refl _);obtain⟨-,hbound, -⟩:=ai (len-1) (by omega)
      rw [show len-1+1=len from by omega]at hbound
      have hlen:((xs.flatMap (bF ts)).length)=len*ts.size:=by
       rw [List.length_flatMap,List.map_congr_left (g:=fun _=>ts.size) (fun x _=>ud ts x),List.map_const',List.sum_replicate_nat,q1]
      have aw:g<w.heap.size:=by
       have:w.heap[g]? =some (.cells cur ty frz):=hg;exact(Array.getElem?_eq_some_iff.1 this).1
      refine⟨[⟨.sl ts,xs⟩],⟨_,[],rfl,rfl⟩, ?_⟩
      simp only [List.map_cons,List.map_nil,ar,aC,enc];exact⟨_,[],[],[],rfl,rfl,⟨_,len,cap,rfl,p,hlen,af,ag,.inr ⟨trivial,rfl,.inr ⟨g,off,cur,ty,frz,rfl,aw,hg,hbound,q2⟩⟩⟩,rfl,rfl⟩
   ·cases d
  ·rename_i fs hu
   simp only [Bool.and_eq_true]at d;obtain⟨d,h2⟩:=d;have h2:=Nat.eq_of_beq_eq_true h2;obtain⟨xs,m,rfl, -,hl,a8,hr⟩:=DataW.trod_struct hu z;have:=MN (n:=n) (fun t bq hm fuel cs x hf z=>DB hS n t bq hm fuel cs x hf z) (fuel:=m) (by omega) cs fs.toList 0 bq xs d (by omega) (fun f hf=>by
    obtain⟨i,hi,rfl⟩:=List.mem_iff_getElem.1 hf;have:=hr i fs.toList[i] (by simp)
    rw [List.getElem?_eq_getElem (by simp at hi;omega)]at this
    exact⟨_,this⟩)
   rwa [List.drop_zero,←h2,←hl,List.take_length]at this
  ·cases d
end
end Go.Ev
namespace Go.Ev
open Go.WideShapes Go.RowKit
def lJ:CT→CK
 |.bool=>.bool
 |.int k=>.int k
 |.str=>.str
 |c=>.sh c
section
variable {H:Heap} {R:Nat→Prop} {B:Nat→Nat→Prop}
theorem DC {nm:Nat→Nat}: ∀ {bq:List CT} {ds:List DV} {vs:List Value} {j:Nat},Typed bq ds→ar H R false (ds.map fun d=>enc d.c d.x) vs []→bn H R B true [] nm j (bq.map lJ) ds vs []
 | [],ds,vs,j,f,h=>by
  simp only [Typed]at f;subst f;simp only [List.map_nil,ar]at h;simp only [List.map_nil,bn];exact⟨trivial,h.1,trivial⟩
 |c::bq,ds,vs,j,f,h=>by
  simp only [Typed]at f;obtain⟨x,r,rfl,f⟩:=f;simp only [List.map_cons,ar]at h;obtain⟨v,g,f1,f2,rfl,i,b,m⟩:=h;obtain⟨rfl,rfl⟩:=List.append_eq_nil_iff.1 i.symm;simp only [List.map_cons,bn];refine⟨v,g,[⟨c,x⟩],r,[],[],rfl,rfl,rfl,b.cz, ?_,DC f m⟩
  cases c with
  |bool=>simp only [lJ,aq];simp only [enc,aC]at b;exact⟨x,rfl,b.1,trivial⟩
  |int k=>simp only [lJ,aq];simp only [enc,aC]at b;exact⟨x,rfl,b.1,b.2.1,trivial⟩
  |str=>simp only [lJ,aq];simp only [enc,aC]at b;exact⟨x,rfl,b.1,b.2.1,trivial⟩
  |sl ts=>simp only [lJ,aq];exact⟨x,rfl,rfl,b,trivial⟩
  |tree fs=>simp only [lJ,aq];exact⟨x,rfl,rfl,b,trivial⟩
end
end Go.Ev
namespace Go.Ev
def W (p:Nat→Prop):Prop:= ∃N,∀n,N≤n→p n
theorem W.of {p:Nat→Prop} (h: ∀n,p n):W p:=⟨0,fun n _=>h n⟩
theorem W.and {p q:Nat→Prop} (h:W p) (k:W q):W fun n=>p n∧q n:=by
 obtain⟨N,h⟩:=h;obtain⟨M,k⟩:=k;exact⟨max N M,fun n b=>⟨h n (by omega),k n (by omega)⟩⟩
theorem W.mono {p q:Nat→Prop} (h:W p) (k: ∀n,p n→q n):W q:=by
 obtain⟨N,h⟩:=h;exact⟨N,fun n b=>k n (h n b)⟩
theorem W.succ {p:Nat→Prop} (h:W fun n=>p (n+1)):W p:=by
 obtain⟨N,h⟩:=h;refine⟨N+1,fun n b=> ?_⟩
 obtain⟨m,rfl⟩: ∃m,n=m+1:=⟨n-1,by omega⟩
 exact h m (by omega)
theorem W.ge (k:Nat):W fun n=>k≤n:=⟨k,fun _ h=>h⟩
theorem W.all {α:Type} {p:α→Nat→Prop}: ∀(l:List α),(∀x∈l,W (p x))→W fun n=> ∀x∈l,p x n
 | [],_=>⟨0,by simp⟩
 |a::l,h=>by
  refine((h a (by simp)).and (W.all l fun x b=>h x (by simp [b]))).mono fun n d x b=> ?_
  rcases List.mem_cons.1 b with rfl|b
  ·exact d.1
  ·exact d.2 x b
theorem W.val {α:Type} {f:Nat→Option α} {v:α} (h:W fun n=>f n=some v): ∃n,f n=some v:=by
 obtain⟨N,h⟩:=h;exact⟨N,h N (Nat.le_refl _)⟩
theorem jY {j α:Type} {len:Nat} {L:Nat→Nat→Nat→j→Option α} (inv:Nat→j→Prop) (post:α→Prop)
  (b:W fun n=> ∀m i s,i<len→inv i s→(∃r,L n (m+1) i s=some r∧post r)∨ ∃s',L n (m+1) i s=L n m (i+1) s'∧inv (i+1) s')
  (d:W fun n=> ∀m s,inv len s→ ∃r,L n (m+1) len s=some r∧post r):W fun n=> ∀f,inv 0 f→ ∃r,L n n 0 f=some r∧post r:=by
 refine((b.and d).and (W.ge (len+1))).mono fun n ⟨⟨p,q⟩,u⟩ f t=> ?_
 have key: ∀k i s m,len=i+k→inv i s→k<m→ ∃r,L n m i s=some r∧post r:=by
  intro k;induction k with
  |zero=>
   intro i s m e hi hm;obtain⟨m,rfl⟩: ∃m',m=m'+1:=⟨m-1,by omega⟩
   obtain rfl:len=i:=by omega
   exact q m s hi
  |succ k ih=>
   intro i s m e hi hm;obtain⟨m,rfl⟩: ∃m',m=m'+1:=⟨m-1,by omega⟩
   rcases p m i s (by omega) hi with h|⟨s',h,g⟩
   ·exact h
   ·rw [h]
    exact ih (i+1) s' m (by omega) g (by omega)
 exact key len 0 f n (by omega) t (by omega)
theorem dx {i len:Nat} (h:i<len) (b:len≤2^40):wrap .i64 ((i:Int)+(1:Int))=((i+1:Nat):Int):=by
 rw [IntKind.wrap_i64];omega
def ax {α:Type} (l:List α) (i:Int):Option α:=cond (decide (0≤i)) (nth l i.toNat) none
def aM {α:Type} (l:List α) (i:Nat):Option α:=nth l i
theorem bj {α:Type} {l:List α} {i:Nat} (h:i<l.length):ax l (i:Int)=some l[i]:=by
 unfold ax nth;rw [ez (by omega)]
 simp [h]
theorem fe {α:Type} {l:List α} {i:Nat} (h:i<l.length):aM l (Int.toNat (i:Int))=some l[i]:=by
 unfold aM nth;simp [h]
theorem Yc {α:Type} {a:List α} {d:α} {i:Nat} (h:i<a.length):(a.take i++List.replicate (a.length-i) d).set i a[i]=a.take (i+1)++List.replicate (a.length-(i+1)) d:=by
 apply List.ext_getElem?
 intro j;rw [List.getElem?_set]
 have k:(a.take i).length=i:=by simp;omega
 by_cases e:i=j
 ·subst e
  rw [if_pos rfl,if_pos (by simp;omega),List.getElem?_append_left (by simp;omega),List.getElem?_take,if_pos (by omega),List.getElem?_eq_getElem h]
 ·rw [if_neg e]
  by_cases b:j<i
  ·rw [List.getElem?_append_left (by simp;omega),List.getElem?_append_left (by simp;omega),List.getElem?_take,List.getElem?_take,if_pos b,if_pos (by omega)]
  ·rw [List.getElem?_append_right (by omega),List.getElem?_append_right (by simp;omega),List.getElem?_replicate,List.getElem?_replicate]
   simp only [List.length_take];have f:min i a.length=i:=by omega
   have g:min (i+1) a.length=i+1:=by omega
   rw [f,g];by_cases m:j<a.length
   ·rw [if_pos (by omega),if_pos (by omega)]
   ·rw [if_neg (by omega),if_neg (by omega)]
theorem Yd {α:Type} (a:List α) (d:α) {i:Nat} (h:i≤a.length):(a.take i++List.replicate (a.length-i) d).length=a.length:=by simp;omega
def lim:Nat:=1048576
mutual
def dp:(c:CT)→Interp c→Prop
 |.bool,_=>True
 |.int _,_=>True
 |.str,x=>List.length (α:=UInt8) x≤lim
 |.sl ts,xs=>List.length (α:=aZ ts) xs≤lim∧ ∀x∈(xs:List (aZ ts)),ch ts x
 |.tree _,_=>False
def ch:(ts:aQ)→aZ ts→Prop
 |.one c,x=>dp c x
 |.cons c cs,x=>dp c x.1∧ch cs x.2
end
mutual
def dL:(c:CT)→Interp c→Prop
 |.bool,_=>True
 |.int k,x=>k.min≤js k x∧js k x≤k.max
 |.str,x=>List.length (α:=UInt8) x≤maxLen
 |.sl ts,xs=>List.length (α:=aZ ts) xs≤maxLen∧ ∀x∈(xs:List (aZ ts)),fr ts x
 |.tree _,_=>True
def fr:(ts:aQ)→aZ ts→Prop
 |.one c,x=>dL c x
 |.cons c cs,x=>dL c x.1∧fr cs x.2
end
theorem MP: ∀ {a b:List aX},aX.fit.fits (a++b)→aX.fit.fits a∧aX.fit.fits b
 | [],_,h=>⟨by simp [aX.fit.fits],h⟩
 |d::a,b,h=>by
  simp only [List.cons_append,aX.fit.fits]at h;obtain⟨k1,k2⟩:=MP h.2;exact⟨by simp only [aX.fit.fits];exact⟨h.1,k1⟩,k2⟩
mutual
theorem DD: ∀(c:CT) (x:Interp c),(enc c x).fit→dL c x
 |.bool,_,_=>by simp [dL]
 |.int k,x,h=>by simp only [enc,aX.fit]at h;simp only [dL];exact h
 |.str,x,h=>by simp only [enc,aX.fit]at h;simp only [dL];exact h
 |.sl ts,xs,h=>by
  simp only [enc,aX.fit]at h;simp only [dL];obtain⟨f,d,i⟩:=h;have hlen:((xs:List (aZ ts)).flatMap (bF ts)).length=List.length (α:=aZ ts) xs*ts.size:=by
   rw [List.length_flatMap,List.map_congr_left (g:=fun _=>ts.size) (fun x _=>ud ts x),List.map_const',List.sum_replicate_nat]
  rw [hlen]at d;refine⟨Nat.le_of_mul_le_mul_right d f,fun x b=> ?_⟩
  clear d hlen;have: ∀l:List (aZ ts),aX.fit.fits (l.flatMap (bF ts))→ ∀x∈l,fr ts x:=by
   intro l;induction l with
   |nil=>intro _ x b;cases b
   |cons a l ih=>
    intro h x b;rw [List.flatMap_cons]at h;obtain⟨k1,k2⟩:=MP h;rcases List.mem_cons.1 b with rfl|b
    ·exact MQ ts _ k1
    ·exact ih k2 x b
  exact this xs i x b
 |.tree _,_,_=>by simp [dL]
theorem MQ: ∀(ts:aQ) (x:aZ ts),aX.fit.fits (bF ts x)→fr ts x
 |.one c,x,h=>by
  simp only [bF,aX.fit.fits]at h;simp only [fr];exact DD c x h.1
 |.cons c cs,x,h=>by
  simp only [bF,aX.fit.fits]at h;simp only [fr];exact⟨DD c x.1 h.1,MQ cs x.2 h.2⟩
end
def DE:List DV→Prop
 | []=>True
 |d::ds=>dL d.c d.x∧DE ds
theorem MR: ∀(ds:List DV),aX.fit.fits (ds.map fun d=>enc d.c d.x)→DE ds
 | [],_=>trivial
 |d::ds,h=>by
  simp only [List.map_cons,aX.fit.fits]at h;exact⟨DD _ _ h.1,MR ds h.2⟩
theorem eC {cur:Int} {k:Nat} (b:0≤cur) (d:cur≤1048576) (hk:k≤maxLen):wrap .i64 (cur-(k:Int))=cur-k:=by
 unfold maxLen at hk;rw [IntKind.wrap_i64];omega
theorem oq {α:Type} {l:List α} {sm:α→Prop} (q:l.length≤1048576) {L:Nat→Nat→Int→Int→Option (Sum Int Int)}
  (b:W fun n=> ∀m (i:Nat) (x:α) (left:Int),l[i]? =some x→0≤left→left≤1048576→ ∃v,L n (m+1) (i:Int) left=cond (decide (v<(0:Int))) (some (Sum.inr (-1))) (L n m (wrap .i64 ((i:Int)+(1:Int))) v)∧v≤1048576∧(0≤v→sm x))
  (he: ∀n m left,L n (m+1) (l.length:Int) left=some (Sum.inl left)):
  W fun n=> ∀left:Int,0≤left→left≤1048576→ ∃r,L n n 0 left=some r∧(∀v,r=.inl v→0≤v∧v≤1048576∧ ∀x∈l,sm x)∧(∀v,r=.inr v→v= -1):=by
 have:=jY (len:=l.length) (L:=fun n m i (left:Int)=>L n m (i:Int) left) (fun i left=>0≤left∧left≤1048576∧ ∀j x,j<i→l[j]? =some x→sm x)
  (fun r=>(∀v,r=.inl v→0≤v∧v≤1048576∧ ∀x∈l,sm x)∧(∀v,r=.inr v→v= -1)) ?_ ?_
 ·exact this.mono fun n h left f g=>h left ⟨f,g,fun j x hj=>absurd hj (Nat.not_lt_zero _)⟩
 ·refine b.mono fun n h m i left hi hinv=> ?_
  obtain⟨f,g,p⟩:=hinv;obtain⟨v,e,k1,k2⟩:=h m i l[i] left (List.getElem?_eq_getElem hi) f g
  simp only [e];by_cases d:v<0
  ·left;rw [ez d];exact⟨_,rfl,⟨fun _ h=>by(cases h),fun _ h=>by(cases h;rfl)⟩⟩
  ·right
   rw [hJ d,dx hi (by omega)]
   refine⟨v,rfl,by omega,k1,fun j x hj b=> ?_⟩
   by_cases k:j=i
   ·subst k
    rw [List.getElem?_eq_getElem hi]at b
    cases b;exact k2 (by omega)
   ·exact p j x (by omega) b
 ·refine W.of fun n m left hinv=>⟨_,he n m left,⟨fun v d=> ?_,fun _ h=>by(cases h)⟩⟩
  cases d;refine⟨hinv.1,hinv.2.1,fun x b=> ?_⟩
  obtain⟨j,hj,rfl⟩:=List.mem_iff_getElem.1 b;exact hinv.2.2 j _ hj (List.getElem?_eq_getElem hj)
theorem kE {α:Type} {a:List α} {d:α} (k:a.length≤1048576) {β:Type} {L:Nat→Nat→Int→List α→Option (Sum (List α) β)}
  (b:W fun n=> ∀m (i:Nat) (out:List α),(h:i<a.length)→out.length=a.length→L n (m+1) (i:Int) out=L n m (wrap .i64 ((i:Int)+(1:Int))) (out.set i a[i]))
  (he: ∀n m out,L n (m+1) (a.length:Int) out=some (Sum.inl out)):W fun n=>L n n 0 (List.replicate a.length d)=some (Sum.inl a):=by
 have:=jY (len:=a.length) (L:=fun n m i (out:List α)=>L n m (i:Int) out) (fun i out=>i≤a.length∧out=a.take i++List.replicate (a.length-i) d) (fun r=>r=.inl a) ?_ ?_
 ·exact this.mono fun n h=>by
   obtain⟨r,f,g⟩:=h (List.replicate a.length d) ⟨Nat.zero_le _,by simp⟩
   rw [←g];exact f
 ·refine b.mono fun n h m i out hi hinv=> ?_
  obtain⟨j,rfl⟩:=hinv;right
  have:=h m i _ hi (Yd a d j);rw [dx hi (by omega),Yc hi]at this
  exact⟨_,this,hi,rfl⟩
 ·refine W.of fun n m out hinv=>⟨_,he n m out, ?_⟩
  rw [hinv.2];simp
theorem kF {β:Type} {len:Nat} (g:len≤1048576) {L:Nat→Nat→Int→Option (Sum Unit β)}
  (b:W fun n=> ∀m (i:Nat),i<len→L n (m+1) (i:Int)=L n m (wrap .i64 ((i:Int)+(1:Int))))
  (he: ∀n m,L n (m+1) (len:Int)=some (Sum.inl ())):W fun n=>L n n 0=some (Sum.inl ()):=by
 have:=jY (len:=len) (L:=fun n m i (_:Unit)=>L n m (i:Int)) (fun _ _=>True) (fun r=>r=.inl ()) ?_ ?_
 ·exact this.mono fun n h=>by
   obtain⟨r,d,f⟩:=h () trivial;rw [←f];exact d
 ·refine b.mono fun n h m i _ hi _=> ?_
  right
  have:=h m i hi;rw [dx hi (by omega)]at this
  exact⟨(),this,trivial⟩
 ·exact W.of fun n m _ _=>⟨_,he n m,rfl⟩
abbrev Ye:CT→aQ
 |.tree fs=>fs
 |c=>.one c
theorem mM {n:Nat} (h:n≤9223372036854775807):Nat.ble n mx=true:=Nat.ble_eq_true_of_le h
end Go.Ev
namespace Go.Ev
def primItoa (ds:List DV):Option (bL [.str]):=(eF [.int .i64] ds).bind fun n=>some (Lib.itoa n)
def bD.has (gl:bD) (P:Program) (name:String) (k:IntKind) (zs:List Int):Prop:=
 (∃g,P.globalNamed name=some g∧g<gl.n)∧Lib.TabIs P gl.w name k zs
theorem bD.tab {gl:bD} {P:Program} {name:String} {k:IntKind} {zs:List Int} (h:gl.has P name k zs) {w:World} {F:Nat→Prop} (hw:oi gl w F):Lib.TabIs P w name k zs:=by
 obtain⟨⟨g,d,f⟩,b⟩:=h;have e:w.heap[g]? =gl.w.heap[g]? :=(hw.at_ g f).2;unfold Lib.TabIs World.var? at b ⊢;rw [d]at b ⊢;simp only [Z]at b ⊢;rw [e];exact b
theorem DF {α:Type} {a:Array α} (h:a.size=1): ∃x,a= #[x]:=by
 obtain⟨l⟩:=a;match l,h with
 | [x],_=>exact⟨x,rfl⟩
theorem Yf {P:Program} {gl:bD} {f:FuncId} {fn:Func} (t:gl.has P "internal/strconv.uint64pow10" .u64 Lib.pow10Tab)
  (u: ∀(n:Int) (_: -9223372036854775808≤n) (_:n≤9223372036854775807) (w:World) (_:Lib.TabIs P w "internal/strconv.uint64pow10" .u64 Lib.pow10Tab),
   Calls P f #[.int .i64 n] w fun e w'=>e=.returned (.string ⟨(Lib.itoa n).toArray⟩)∧ ∃k os,w'=Sort.grow (w.drewN k) os)
  (ds:List DV) (r:bL [.str]) (h:primItoa ds=some r):
  cV P gl {f:=f,fn:=fn,ins:=[.one (.int .i64)],bx:=[],outs:=.one .str,bM:=[],loops:=[],cN:=[],bG:=[.str],bW:=some primItoa} ds r:=by
 intro w F R bl args dB dA AB AA g p d;obtain⟨a,rfl⟩:=DF p;have i:=d.kb;simp only [bQ]at i;obtain⟨rfl,rfl⟩:=i;have j:=d.kt;simp only [gm,dP,bT,aq]at j;obtain⟨d1,d2,A1,A2,z,e2,⟨-,x0,ex,ev,m,rfl⟩,rfl,rfl⟩:=j;obtain⟨x,hx⟩: ∃x:Int,x=x0:=⟨_,rfl⟩
 subst hx;subst z ex e2;simp only [List.nil_append,List.append_nil]at g;subst g;have hv:a=.int .i64 x:=ev;have hr:r=Lib.itoa x:=by
  have h':some (Lib.itoa x)=some r:=h;exact(Option.some.inj h').symm
 subst hv hr;have q: -9223372036854775808≤x:=m.1;have s:x≤9223372036854775807:=m.2;refine(u x q s w (bD.tab t d.gl)).mono ?_
 rintro e w' ⟨rfl,k,os,rfl⟩
 refine⟨by simp [Sort.grow,World.drewN],fun b m _=> ?_,rfl,rfl,rfl,[⟨.str,Lib.itoa x⟩],[],[],[],rfl, ?_, ?_,by simp [Env.fps],by simp [Env.fps]⟩
 ·simp only [hp,Sort.grow,World.drewN]
  rw [Array.getElem?_append_left m]
 ·simp only [bT,aq]
  exact⟨.inr rfl,Lib.itoa x,rfl,rfl,by have:=Lib.itoa_length_le x q s;unfold maxLen;omega,trivial⟩
 ·simp only [dK,bQ];exact⟨trivial,trivial⟩
end Go.Ev
namespace Go.Ev
open Go
theorem Yg (k:Nat):UInt8.ofNat (Int.toNat (wrap .u8 (wrap .i64 ((48:Int)+(Int.tmod (k:Int) (10:Int))))))=UInt8.ofNat (48+k%10):=by
 have e:Int.tmod (k:Int) (10:Int)=((k%10:Nat):Int):=rfl;rw [e];have b:wrap .i64 ((48:Int)+((k%10:Nat):Int))=((48+k%10:Nat):Int):=by rw [IntKind.wrap_i64];omega
 rw [b];have d:wrap .u8 ((48+k%10:Nat):Int)=((48+k%10:Nat):Int):=by rw [IntKind.wrap_u8];omega
 rw [d];rfl
def dd (k:Nat):O:=if k=0 then []else Lib.decDigits k
theorem Yh {k:Nat} (h:0<k) (acc:O):dd (k/10)++([UInt8.ofNat (48+k%10)]++acc)=dd k++acc:=by
 unfold dd;rw [if_neg (show ¬k=0 by omega)]
 by_cases b:k<10
 ·rw [if_pos (by omega),Lib.decDigits,dif_pos b]
  simp [Nat.mod_eq_of_lt b]
 ·rw [if_neg (by omega)]
  conv=>rhs;rw [Lib.decDigits,dif_neg b]
  simp
theorem Yi {β:Type} {L:Nat→Int→O→Option (Sum O β)}
  (b: ∀m (k:Nat) acc,0<k→1+acc.length≤mx→L (m+1) (k:Int) acc=L m (wrap .i64 (Int.tdiv (k:Int) (10:Int))) ([UInt8.ofNat (Int.toNat (wrap .u8 (wrap .i64 ((48:Int)+(Int.tmod (k:Int) (10:Int))))))]++acc))
  (he: ∀m acc,L (m+1) 0 acc=some (Sum.inl acc)): ∀(k m:Nat) (acc:O),k<m→acc.length+k≤mx→L m (k:Int) acc=some (Sum.inl (dd k++acc)):=by
 intro k;induction k using Nat.strongRecOn with
 |_ k ih=>
  intro m acc hm d;obtain⟨m,rfl⟩: ∃m',m=m'+1:=⟨m-1,by omega⟩
  by_cases f:k=0
  ·subst f;rw [show ((0:Nat):Int)=0 from rfl,he];simp [dd]
  ·rw [b m k acc (by omega) (by omega),Yg]
   have e:Int.tdiv (k:Int) (10:Int)=((k/10:Nat):Int):=rfl;have hw:wrap .i64 ((k/10:Nat):Int)=((k/10:Nat):Int):=by unfold mx at d;rw [IntKind.wrap_i64];omega
   rw [e,hw,ih (k/10) (by omega) m _ (by omega) (by simp;omega),Yh (by omega)]
theorem DG {k:Nat}:Lib.itoa (k:Int)=Lib.decDigits k:=by unfold Lib.itoa;rw [if_neg (by omega)];simp
theorem xN {α:Type} {l:List α} {i:Nat} (h:i<l.length):l.take (i+1)=l.take i++[l[i]]:=by
 rw [List.take_add_one,List.getElem?_eq_getElem h];rfl
end Go.Ev
namespace Go.Ev
open Go
structure dq (P:Program) (gl:bD) (l:List Entry):Prop where
 ok: ∀x∈l,∀p,x.bW=some p→ ∀ds r,p ds=some r→cV P gl x ds r
theorem dq.nil {P:Program} {gl:bD}:dq P gl []:=⟨by simp⟩
theorem dq.no {P:Program} {gl:bD} {x:Entry} {l:List Entry} (h:x.bW.isNone=true) (b:dq P gl l):dq P gl (x::l):=⟨fun y hy p hp=>by
 rcases List.mem_cons.1 hy with rfl|hy
 ·rw [hp]at h;cases h
 ·exact b.ok y hy p hp⟩
theorem dq.cons {P:Program} {gl:bD} {x:Entry} {l:List Entry} (h: ∀p,x.bW=some p→ ∀ds r,p ds=some r→cV P gl x ds r) (b:dq P gl l):dq P gl (x::l):=⟨fun y hy=>by
 rcases List.mem_cons.1 hy with rfl|hy
 ·exact h
 ·exact b.ok y hy⟩
theorem MS {P:Program} {w:World} {name:String} {d:DataW Unit}: ∀ {l:List (String×DataW Unit)} {b:List MemPlace},DataW.LaidVars P w l b→(name,d)∈l→
  ∃g t cs fuel p,P.globalNamed name=some g∧(P.globals[g]?).map (·.type)=some t∧w.var? P name=some cs∧DataW.trod (fun _=>()) P w 0 (fun _=>true) false fuel t cs.toList=some (d,p)
 | [],_,_,h=>by cases h
 |(n,e)::l,b,f,h=>by
  obtain⟨g,t,cs,fuel,p,q,i,j,k,m,r, -⟩:=f;rcases List.mem_cons.1 h with s|h
  ·cases s
   exact⟨g,t,cs,fuel,p,i,j,k,m⟩
  ·exact MS r h
theorem Yj {P:Program} {w:World} {name:String} {k:IntKind} {zs:List Int} {l:List (String×DataW Unit)} {g:Nat} {t e:TypeId} {n:Nat} (j:laidMet P l w) (hm:(name,Lib.tabData k zs)∈l)
  (d:P.globalNamed name=some g) (f:(P.globals[g]?).map (·.type)=some t) (m:P.underlying t=some (.array n e)) (he:P.underlying e=some (.int k)) (h:P.cellsOf e=1) (i:P.cellsOf t=n):
  (bD.mk w.heap.size w).has P name k zs:=by
 obtain⟨ps,q, -⟩:=j;obtain⟨g',t',cs,fuel,p,r,s,b,u⟩:=MS q hm;obtain rfl:=Option.some.inj (d.symm.trans r);obtain rfl:=Option.some.inj (f.symm.trans s);refine⟨⟨g,d, ?_⟩, ?_⟩
 ·unfold World.var? at b
  rw [d]at b;simp only [Z]at b;split at b
  ·rename_i c _ _ z
   exact(Array.getElem?_eq_some_iff.1 z).1
  ·cases b
 ·unfold Lib.TabIs
  rw [show (bD.mk w.heap.size w).w=w from rfl,b,←Lib.cells_of_tab m he h i u]
end Go.Ev
namespace Go.Ev
open Go
def primIndexByte (ds:List DV):Option (bL [.int .i64]):=(eF [.str,.int .u8] ds).bind fun p=>some (Lib.indexByte p.1 p.2)
def primCompare (ds:List DV):Option (bL [.int .i64]):=(eF [.str,.str] ds).bind fun p=>some (Lib.compareBytes p.1 p.2)
theorem Yk {α:Type} {a:Array α} (h:a.size=2): ∃x y,a= #[x,y]:=by
 obtain⟨l⟩:=a;match l,h with
 | [x,y],_=>exact⟨x,y,rfl⟩
theorem uh {gl:bD} {E:Entry} {w:World} {F R:Nat→Prop} {bl:Nat→Nat} {args:Array Value} {dB dA:List DV} {AB AA:Env} {k1 k2:CK} (d:E.ins=[.one k1,.one k2]) (k:E.bx=[]) (h:args.size=E.ins.length)
  (j:pY gl E w F R bl (fun i=>args.getD i undef) dB dA AB AA): ∃a b d1 d2 A1 A2,args= #[a,b]∧dB++dA=d1++d2∧(∃nm,aq (hp w) R (eO bl) true AB nm k1 d1 a A1)∧ ∃nm,aq (hp w) R (eO bl) true (AB++A1) nm k2 d2 b A2:=by
 rw [d]at h;obtain⟨a,b,rfl⟩:=Yk h;have f:=j.kb;rw [k]at f;simp only [bQ]at f;obtain⟨rfl,rfl⟩:=f;have g:=j.kt;rw [d]at g;simp only [gm,dP,bT]at g;obtain⟨d1,m,A1,p,q,r,⟨-,s⟩,d2,d3,A2,A3,t,u,⟨-,z⟩,e5,e6⟩:=g;subst q r t u e5 e6;exact⟨a,b,d1,d2,A1,A2,rfl,by simp,⟨_,s⟩,⟨_,z⟩⟩
theorem rE {E:Entry} {w:World} {F R:Nat→Prop} {bl:Nat→Nat} {r:bL E.bG} {u:Value} (b:E.bx=[]) (hk:bT (hp w) R rp true [] (fD 9000) E.outs (lA E.bG r) u []):iw E w w F R bl r u:=by
 refine⟨Nat.le_refl _,fun _ _ _=>rfl,rfl,rfl,rfl,lA E.bG r,[],[],[],by simp,hk, ?_,by rw [b];simp [Env.fps],by simp [Env.fps]⟩
 rw [b];simp [dK,bQ]
theorem MU: ∀(l:List UInt8) (c:UInt8),Lib.indexByte l c≤l.length
 | [],c=>by unfold Lib.indexByte;simp
 |b::l,c=>by
  have:=MU l c;unfold Lib.indexByte;simp only [List.length_cons];split
  ·omega
  ·split<;>omega
theorem DH: ∀(a b:List UInt8), -1≤Lib.compareBytes a b∧Lib.compareBytes a b≤1
 | [],[]=>by unfold Lib.compareBytes;omega
 | [],_::_=>by unfold Lib.compareBytes;omega
 |_::_,[]=>by unfold Lib.compareBytes;omega
 |a::as,b::bs=>by
  have:=DH as bs;unfold Lib.compareBytes;split
  ·omega
  ·split<;>omega
theorem Yl {P:Program} {gl:bD} {f:FuncId} {fn:Func}
  (p: ∀(s:ByteArray) (c:Int) (w:World),Calls P f #[.string s,.int .u8 c] w fun e w'=>e=.returned (.int .i64 (Lib.indexByte s.data.toList c.toNat.toUInt8))∧w'=w)
  (ds:List DV) (r:bL [.int .i64]) (h:primIndexByte ds=some r):
  cV P gl {f:=f,fn:=fn,ins:=[.one .str,.one (.int .u8)],bx:=[],outs:=.one (.int .i64),bM:=[],loops:=[],cN:=[],bG:=[.int .i64],bW:=some primIndexByte} ds r:=by
 intro w F R bl args dB dA AB AA d g i;obtain⟨a,b,d1,d2,A1,A2,rfl,q,⟨t,j⟩,u,k⟩:=uh (k1:=.str) (k2:=.int .u8) rfl rfl g i;rw [q]at d;subst d;simp only [aq]at j k;obtain⟨x,rfl,rfl,z, -⟩:=j;obtain⟨c,rfl,rfl,hb, -⟩:=k;have h':some (Lib.indexByte (x:O) (c:UInt8))=some r:=h;have hr:r=Lib.indexByte (x:O) (c:UInt8):=(Option.some.inj h').symm;subst hr;refine(p ⟨(x:O).toArray⟩ (js .u8 c) w).mono ?_
 rintro e w' ⟨rfl,rfl⟩
 refine rE rfl ?_
 have e1:(js .u8 c).toNat.toUInt8=(c:UInt8):=by
  show((((c:UInt8).toNat:Int)).toNat).toUInt8=(c:UInt8);rw [Int.toNat_natCast];exact UInt8.ofNat_toNat
 have m: -1≤Lib.indexByte (x:O) (c:UInt8)∧Lib.indexByte (x:O) (c:UInt8)≤(x:O).length:=⟨Lib.indexByte_ge _ _,MU _ _⟩;unfold maxLen at z;simp only [bT,aq];refine⟨.inr rfl,_,rfl, ?_,⟨?_, ?_⟩,trivial⟩
 ·simp only [e1];rfl
 ·show -9223372036854775808≤Lib.indexByte (x:O) (c:UInt8);omega
 ·show Lib.indexByte (x:O) (c:UInt8)≤9223372036854775807;omega
theorem Ym {P:Program} {gl:bD} {f:FuncId} {fn:Func}
  (p: ∀(a b:ByteArray) (w:World),Calls P f #[.string a,.string b] w fun e w'=>e=.returned (.int .i64 (Lib.compareBytes a.data.toList b.data.toList))∧w'=w)
  (ds:List DV) (r:bL [.int .i64]) (h:primCompare ds=some r):
  cV P gl {f:=f,fn:=fn,ins:=[.one .str,.one .str],bx:=[],outs:=.one (.int .i64),bM:=[],loops:=[],cN:=[],bG:=[.int .i64],bW:=some primCompare} ds r:=by
 intro w F R bl args dB dA AB AA d g i;obtain⟨a,b,d1,d2,A1,A2,rfl,q,⟨s,j⟩,t,k⟩:=uh (k1:=.str) (k2:=.str) rfl rfl g i;rw [q]at d;subst d;simp only [aq]at j k;obtain⟨x,rfl,rfl,hx, -⟩:=j;obtain⟨c,rfl,rfl,hb, -⟩:=k;have u:some (Lib.compareBytes (x:O) (c:O))=some r:=h;have z:r=Lib.compareBytes (x:O) (c:O):=(Option.some.inj u).symm;subst z;refine(p ⟨(x:O).toArray⟩ ⟨(c:O).toArray⟩ w).mono ?_
 rintro e w' ⟨rfl,rfl⟩
 refine rE rfl ?_
 have m:=DH (x:O) (c:O);simp only [bT,aq];refine⟨.inr rfl,_,rfl,rfl,⟨?_, ?_⟩,trivial⟩
 ·show -9223372036854775808≤Lib.compareBytes (x:O) (c:O);omega
 ·show Lib.compareBytes (x:O) (c:O)≤9223372036854775807;omega
def primAtoi (ds:List DV):Option (bL [.int .i64,.bool]):=(eF [.str] ds).bind fun s=>cond (Nat.ble (List.length (α:=UInt8) s) 18) ((Lib.atoi s).map fun n=>(n,false)) none
theorem Yn {P:Program} {gl:bD} {f:FuncId} {fn:Func} {B:TypeId}
  (hc: ∀(s:ByteArray) (n:Int) (_:s.size≤18) (_:Lib.atoi s.data.toList=some n) (w:World),Calls P f #[.string s] w fun e w'=>e=.returned (.tuple #[.int .i64 n,.nilIface])∧ ∃t,w'=Lib.bytesWorld w B t)
  (ds:List DV) (r:bL [.int .i64,.bool]) (h:primAtoi ds=some r):
  cV P gl {f:=f,fn:=fn,ins:=[.one .str],bx:=[],outs:=.aO [.one (.int .i64),.one .er],bM:=[],loops:=[],cN:=[],bG:=[.int .i64,.bool],bW:=some primAtoi} ds r:=by
 intro w F R bl args dB dA AB AA j q k;obtain⟨a,rfl⟩:=DF q;have m:=k.kb;simp only [bQ]at m;obtain⟨rfl,rfl⟩:=m;have p:=k.kt;simp only [gm,dP,bT,aq]at p;obtain⟨d1,d2,A1,A2,e1,e2,⟨-,x0,ex,ev,z,rfl⟩,rfl,rfl⟩:=p;obtain⟨x,hx⟩: ∃x:O,x=x0:=⟨_,rfl⟩
 subst hx;subst e1 ex e2;simp only [List.nil_append,List.append_nil]at j;subst j;have hv:a=.string ⟨x.toArray⟩:=ev;subst hv;have g:cond (Nat.ble x.length 18) ((Lib.atoi x).map fun n=>(n,false)) none=some r:=h
 cases i:Nat.ble x.length 18 with
 |false=>rw [i]at g;cases g
 |true=>
  rw [i]at g;simp only [Y]at g;obtain⟨n,u⟩: ∃n,Lib.atoi x=some n:=by
   cases ha:Lib.atoi x with
   |none=>rw [ha]at g;cases g
   |some n=>exact⟨n,rfl⟩
  rw [u]at g;have hr:r=((n,false):Int×Bool):=(Option.some.inj g).symm;subst hr;have i:=Nat.le_of_ble_eq_true i;have ao:=Lib.atoi_bound u i;refine(hc ⟨x.toArray⟩ n (by show x.toArray.size≤18;simpa using i) u w).mono ?_
  rintro e w' ⟨rfl,t,rfl⟩
  have d:=Lib.bytesWorld_below w B t;refine⟨d.size,fun b z _=>d.block b z,d.os,d.tape,d.output,[⟨.int .i64,n⟩,⟨.bool,false⟩],[],[],[],rfl, ?_,by simp [dK,bQ],by simp [Env.fps],by simp [Env.fps]⟩
  simp only [bT,ck,aq];refine⟨_,rfl,_,_,[⟨.int .i64,n⟩],[⟨.bool,false⟩],[],[],rfl,rfl,rfl,.inr rfl,⟨n,rfl,rfl,⟨?_, ?_⟩,rfl⟩,_,_,[⟨.bool,false⟩],[],[],[],rfl,rfl,rfl,.inr rfl,⟨false,rfl,.inl ⟨rfl,rfl⟩,rfl⟩,rfl,rfl,rfl⟩
  ·show -9223372036854775808≤n;omega
  ·show n≤9223372036854775807;omega
end Go.Ev
namespace Go.Ev
open Go
def gG (c:CT) (ds:List DV):Option (bL [c]):=(eF [c] ds).bind fun x=>cond (Nat.ble (aD c x) big) (some x) none
def Yo (c:CT) (x:Interp c) (i j:Int):Option (Interp c):=cond (decide (0≤i∧i≤j∧j≤aD c x)) (some (jt c (fQ c i.toNat x) (gj c j.toNat x))) none
def Yp (c:CT) (x:Interp c) (i:Int) (v:Interp c):Option (Interp c):=cond (decide (0≤i∧i≤aD c x)&&Nat.ble (aD c x+aD c v) big) (some (jt c (fQ c i.toNat x) (jt c v (gj c i.toNat x)))) none
def ui (c:CT) (ds:List DV):Option (bL [c]):=(eF [c,.int .i64,.int .i64] ds).bind fun p=>Yo c p.1 p.2.1 p.2.2
def rF (c:CT) (ds:List DV):Option (bL [c]):=(eF [c,.int .i64,c] ds).bind fun p=>Yp c p.1 p.2.1 p.2.2
def primMul64 (ds:List DV):Option (bL [.int .u64,.int .u64]):=(eF [.int .u64,.int .u64] ds).bind fun p=>some (((show Int from p.1)*(show Int from p.2))/18446744073709551616,((show Int from p.1)*(show Int from p.2))%18446744073709551616)
def cH (t:O):O→Int
 | []=>cond (List.isPrefixOf t ([]:O)) 0 (-1)
 |b::s=>cond (List.isPrefixOf t (b::s)) 0 (cond (decide (0≤cH t s)) (cH t s+1) (-1))
def primIndex (ds:List DV):Option (bL [.int .i64]):=(eF [.str,.str] ds).bind fun p=>cond (Nat.ble (List.length (α:=UInt8) p.1) 4000000000) (some (cH p.2 p.1)) none
def DI (s:O):O→Option Bool
 | [c]=>some (decide (0≤Lib.indexByte s c))
 |t=>cond (Nat.ble (List.length (α:=UInt8) s) 4000000000) (some (decide (0≤cH t s))) none
def primContainsG (ds:List DV):Option (bL [.bool]):=(eF [.str,.str] ds).bind fun p=>DI p.1 p.2
def aP (cur:O):O→List O
 | []=>cond (List.isEmpty cur) [] [cur]
 |b::s=>cond (b==32) (cond (List.isEmpty cur) (aP [] s) (cur::aP [] s)) (aP (cur++[b]) s)
def primFields (ds:List DV):Option (bL [.sl (.one .str)]):=(eF [.str] ds).bind fun s=>cond (Nat.ble (List.length (α:=UInt8) s) 4000000000) (some (aP [] s)) none
def jB (l:List Int):List Int:=l.mergeSort fun a b=>decide (a≤b)
def primSortI (ds:List DV):Option (bL [.sl (.one (.int .i64))]):=(eF [.sl (.one (.int .i64))] ds).bind fun l=>cond (Nat.ble (List.length (α:=Int) l) big) (some (jB l)) none
end Go.Ev
namespace Go.Ev
abbrev xO:List CT→Type→Type
 | [],α=>α
 |c::cs,α=>Interp c→xO cs α
def cur {α:Type}:(cs:List CT)→(List DV→α)→xO cs α
 | [],f=>f []
 |c::cs,f=>fun x=>cur cs fun ds=>f (⟨c,x⟩::ds)
mutual
def MV:CK→List CT
 |.bool=>[.bool]
 |.int k=>[.int k]
 |.str=>[.str]
 |.er=>[.bool]
 |.sh c=>[c]
 |.own c=>[c]
 |.gs _ c=>[c]
 |.fn _ a b=>rG a++rG b
 |_=>[]
def rG:List CK→List CT
 | []=>[]
 |k::ks=>MV k++rG ks
end
mutual
def dV:bh→List CT
 |.one k=>MV k
 |.agg ks=>rG ks
 |.aO vs=>DJ vs
def DJ:List bh→List CT
 | []=>[]
 |v::vs=>dV v++DJ vs
end
def DK:List (Nat×List CK)→List CT
 | []=>[]
 |(_,ks)::r=>rG ks++DK r
def MW:List (Nat×bh)→List CT
 | []=>[]
 |(_,v)::r=>dV v++MW r
def MX:List (List CK)→List CT
 | []=>[]
 |ks::r=>rG ks++MX r
def MY (g:cG):List CT:=DK g.boxes++MW g.tmps
def MZ (E:Entry):List CT:=DK E.bx++DJ E.ins
def lp (g h:cG):cG×cG×List CT:=(g,h,MY h)
def Na (t:Nat):List Nat→Bool
 | []=>false
 |x::r=>Nat.beq x t||Na t r
def xP (l:List Nat):List (Nat×bh)→List (Nat×bh)
 | []=>[]
 |(t,k)::r=>cond (Na t l) ((t,k)::xP l r) (xP l r)
def lq (ts:List (Nat×bh)) (bx:List (Nat×List CK)) (l:List Nat):cG×cG×List CT:=lp ⟨ts,bx⟩ ⟨xP l ts,bx⟩
def lr (ts:List (Nat×bh)) (bx:List (Nat×List CK)) (l:List Nat):cG×cG×List CT:=lp ⟨ts,bx⟩ ⟨xP l ts,[]⟩
def xQ (id:Nat):List (Nat×cG×cG×List CT)→cG×cG×List CT
 | []=>lp ⟨[],[]⟩ ⟨[],[]⟩
 |(i,x)::r=>cond (Nat.beq i id) x (xQ id r)
def bU (f:FuncId) (fn:Func) (ins:List bh) (bx:List (Nat×List CK)) (outs:bh) (bM:List (List CK)) (loops:List (Nat×cG×cG×List CT)) (cN:List Nat):Entry:=
 {f:=f,fn:=fn,ins:=ins,bx:=bx,outs:=outs,bM:=bM,loops:=loops,cN:=cN,bG:=dV outs++MX bM,bW:=none}
def Yq (f:FuncId) (fn:Func) (ins:List bh) (outs:bh) (loops:List (Nat×cG×cG×List CT)) (cN:List Nat) (back:Nat):Entry:=
 {f:=f,fn:=fn,ins:=ins,bx:=[],outs:=outs,bM:=[],loops:=loops,cN:=cN,bG:=dV outs,bW:=none,back:=some back}
def dt (f:FuncId) (fn:Func) (ins:List bh) (outs:bh) (loops:List (Nat×cG×cG×List CT)) (cN:List Nat):Entry:=bU f fn ins [] outs [] loops cN
def bJ (f:FuncId) (fn:Func) (ins:List bh) (outs:bh) (loops:List (Nat×cG×cG×List CT)):Entry:=bU f fn ins [] outs [] loops []
def au (f:FuncId) (fn:Func) (ins:List bh) (outs:bh):Entry:=bU f fn ins [] outs [] [] []
def Nb (E:Entry):Bool:=jW E&&(tZ E&&(!(E.fn.name== "runtime.NumGoroutine")&& !E.fn.body.isNone))
theorem dG.of {P:Program} {l:List Entry} (h:l.all Nb=true) (g:l.map (fun E=>P.funcs[E.f]?)=l.map fun E=>some E.fn):dG P l:=⟨fun x d=>by
 have b:=List.all_eq_true.1 h x d;simp only [Nb,Bool.and_eq_true,Bool.not_eq_true']at b;exact⟨b.1,b.2.1,List.map_inj_left.1 g x d,b.2.2.1,b.2.2.2⟩⟩
theorem dG.app {P:Program} {l m:List Entry} (h:dG P l) (k:dG P m):dG P (l++m):=⟨fun x b=>(List.mem_append.1 b).elim (h.ok x) (k.ok x)⟩
end Go.Ev
namespace Go.Ev
open Go
noncomputable def bo (P:Prop):Bool:= @decide P (Classical.propDecidable P)
theorem rH {P:Prop}:(bo P=true)=P:=by
 unfold bo;exact propext (@decide_eq_true_iff P (Classical.propDecidable P))
theorem aB {P:Prop} (h:P):bo P=true:=by rw [rH];exact h
theorem az {P:Prop} (h: ¬P):bo P=false:=by
 cases e:bo P
 ·rfl
 ·exact absurd (rH.mp e) h
theorem mN (b:Bool):b=bo (b=true):=by
 cases b
 ·exact(az (by simp)).symm
 ·exact(aB rfl).symm
theorem bR (P:Prop) [inst:Decidable P]:decide P=bo P:=by
 by_cases h:P
 ·rw [ez h,aB h]
 ·rw [hJ h,az h]
theorem bz (P:Prop):(!bo P)=bo (¬P):=by
 by_cases h:P
 ·rw [aB h,az (by simp [h])];rfl
 ·rw [az h,aB h];rfl
theorem bk {α:Type} [BEq α] [LawfulBEq α] (a b:α):(a==b)=bo (a=b):=by
 by_cases h:a=b
 ·rw [aB h,h];simp
 ·rw [az h];simp [h]
theorem cq {α:Type} [BEq α] [LawfulBEq α] (a b:α):(a !=b)=bo (¬a=b):=by
 unfold bne;rw [bk,bz]
theorem dy {α:Type} (P:Prop) (x y:α):cond (bo P) x y= @ite α P (Classical.propDecidable P) x y:=by
 by_cases h:P
 ·rw [aB h,if_pos h];rfl
 ·rw [az h,if_neg h];rfl
theorem iY (P Q:Prop):cond (bo P) (some (bo Q)) (some false)=some (bo (P∧Q)):=by
 by_cases h:P
 ·rw [aB h];simp [h]
 ·rw [az h,az (fun k:P∧Q=>h k.1)];rfl
theorem kG (P Q:Prop):cond (bo P) (some true) (some (bo Q))=some (bo (P∨Q)):=by
 by_cases h:P
 ·rw [aB h,aB (Or.inl h)];rfl
 ·rw [az h];simp [h]
theorem uj (P Q:Prop):cond (bo P) (some false) (some (bo Q))=some (bo (¬P∧Q)):=by
 by_cases h:P
 ·rw [aB h,az (fun k: ¬P∧Q=>k.1 h)];rfl
 ·rw [az h];simp [h]
theorem cE {P Q:Prop} (h:P↔Q):(some (bo P):Option Bool)=some (bo Q):=by rw [propext h]
theorem gH {α:Type} (P Q:Prop) (x y:α):cond (bo P) x (cond (bo Q) x y)=cond (bo (P∨Q)) x y:=by
 by_cases h:P
 ·rw [aB h,aB (Or.inl h)];rfl
 ·rw [az h];simp [h]
theorem eG {α:Type} {P Q:Prop} {x y:α} (h: ¬P↔Q):cond (bo P) x y=cond (bo Q) y x:=by
 by_cases k:P
 ·rw [aB k,az (fun q=>h.2 q k)];rfl
 ·rw [az k,aB (h.1 k)];rfl
theorem rI:bo True=true:=aB trivial
theorem rJ:bo False=false:=az id
theorem xR (P A B:Prop):cond (bo P) (some (bo A)) (some (bo B))=some (bo ((P∧A)∨(¬P∧B))):=by
 by_cases h:P
 ·rw [aB h];simp [h]
 ·rw [az h];simp [h]
theorem cO {α β γ:Type} (a:α) (f:α→Option γ) (g:β→Option γ):ay (Sum.inl a) f g=f a:=rfl
theorem uk {α β γ:Type} (a:β) (f:α→Option γ) (g:β→Option γ):ay (Sum.inr a) f g=g a:=rfl
theorem cC {α β γ:Type} (P:Prop) (a:α) (b:β) (f:α→Option γ) (g:β→Option γ):ay (cond (bo P) (Sum.inl a) (Sum.inr b)) f g=cond (bo P) (f a) (g b):=by
 cases bo P<;>rfl
theorem cT (P:Prop):cond (bo P) (some true) (some false)=some (bo P):=by cases bo P<;>rfl
theorem du (P:Prop):cond (bo P) (some false) (some true)=some (bo (¬P)):=by rw [←bz];cases bo P<;>rfl
theorem cZ {α β:Type} (P:Prop) (x y:Option α) (f:α→Option β):(cond (bo P) x y).bind f=cond (bo P) (x.bind f) (y.bind f):=by cases bo P<;>rfl
theorem kH {β γ:Type} {len:Nat} (s:len≤1048576) {q:Nat→Prop} {r:γ} {b:β} {L:Nat→Nat→Int→Option (Sum β γ)}
  (f:W fun n=> ∀m (i:Nat),i<len→L n (m+1) (i:Int)=cond (bo (q i)) (L n m (wrap .i64 ((i:Int)+(1:Int)))) (some (.inr r)))
  (he: ∀n m,L n (m+1) (len:Int)=some (.inl b)):W fun n=>L n n 0=some (cond (bo (∀i,i<len→q i)) (.inl b) (.inr r)):=by
 have:=jY (len:=len) (L:=fun n m i (_:Unit)=>L n m (i:Int)) (fun i _=> ∀j,j<i→q j) (fun x=>x=cond (bo (∀i,i<len→q i)) (.inl b) (.inr r)) ?_ ?_
 ·exact this.mono fun n h=>by
   obtain⟨x,g,p⟩:=h () (fun j hj=>absurd hj (Nat.not_lt_zero _))
   rw [←p];exact g
 ·refine f.mono fun n h m i _ hi hinv=> ?_
  have h:=h m i hi;by_cases d:q i
  ·right
   rw [aB d]at h;refine⟨(),by rw [←dx hi (by omega)];exact h,fun j hj=> ?_⟩
   by_cases e:j=i
   ·subst e;exact d
   ·exact hinv j (by omega)
  ·left
   rw [az d]at h;refine⟨_,h, ?_⟩
   rw [az (fun k=>d (k i hi))]
   rfl
 ·exact W.of fun n m _ hinv=>⟨_,he n m,by rw [aB hinv];rfl⟩
theorem Yr {β γ:Type} {len:Nat} (p:len≤1048576) {q:Nat→Prop} {r:Int→γ} {b:β} {L:Nat→Nat→Int→Option (Sum β γ)}
  (g:W fun n=> ∀m (i:Nat),i<len→L n (m+1) (i:Int)=cond (bo (q i)) (some (.inr (r i))) (L n m (wrap .i64 ((i:Int)+(1:Int)))))
  (he: ∀n m,L n (m+1) (len:Int)=some (.inl b)):W fun n=>(∃i:Nat,i<len∧q i∧L n n 0=some (.inr (r i)))∨((∀i,i<len→ ¬q i)∧L n n 0=some (.inl b)):=by
 have:=jY (len:=len) (L:=fun n m i (_:Unit)=>L n m (i:Int)) (fun i _=> ∀j,j<i→ ¬q j) (fun x=>(∃i:Nat,i<len∧q i∧x=.inr (r i))∨((∀i,i<len→ ¬q i)∧x=.inl b)) ?_ ?_
 ·exact this.mono fun n h=>by
   obtain⟨x,f,k⟩:=h () (fun j hj=>absurd hj (Nat.not_lt_zero _))
   have f:L n n 0=some x:=f;rw [f];rcases k with⟨i,a,c,rfl⟩|⟨a,rfl⟩
   ·exact .inl ⟨i,a,c,rfl⟩
   ·exact .inr ⟨a,rfl⟩
 ·refine g.mono fun n h m i _ hi hinv=> ?_
  have h:=h m i hi;by_cases d:q i
  ·left
   rw [aB d]at h;exact⟨_,h,.inl ⟨i,hi,d,rfl⟩⟩
  ·right
   rw [az d]at h;refine⟨(),by rw [←dx hi (by omega)];exact h,fun j hj=> ?_⟩
   by_cases e:j=i
   ·subst e;exact d
   ·exact hinv j (by omega)
 ·exact W.of fun n m _ hinv=>⟨_,he n m,.inr ⟨hinv,rfl⟩⟩
theorem um {α:Type} {l:List α} {i:Nat} (b:0<i) (h:i<l.length) (d:l.length≤1048576):ax l (wrap .i64 ((i:Int)-(1:Int)))=some (l[i-1]'(by omega)):=by
 have e:wrap .i64 ((i:Int)-(1:Int))=((i-1:Nat):Int):=by rw [IntKind.wrap_i64];omega
 rw [e,bj (by omega)]
theorem xS {α:Type} {l:List α} (b:0<l.length) (d:l.length≤1048576):ax l (wrap .i64 ((l.length:Int)-(1:Int)))=some (l[l.length-1]'(by omega)):=by
 have e:wrap .i64 ((l.length:Int)-(1:Int))=((l.length-1:Nat):Int):=by rw [IntKind.wrap_i64];omega
 rw [e,bj (by omega)]
theorem Ys {α:Type} (l:List α) (p:α→Prop):(∀i,(h:i<l.length)→p l[i])↔ ∀x∈l,p x:=by
 constructor
 ·intro h x b
  obtain⟨i,hi,rfl⟩:=List.mem_iff_getElem.1 b;exact h i hi
 ·exact fun h i hi=>h _ (List.getElem_mem hi)
def At {α:Type} (l:List α) (p:α→Prop) (i:Nat):Prop:= ∀h:i<l.length,p l[i]
theorem qc {α:Type} (l:List α) (p:α→Prop):(∀i,i<l.length→At l p i)↔ ∀x∈l,p x:=by
 rw [←Ys];exact⟨fun h i hi=>h i hi hi,fun h i hi _=>h i hi⟩
theorem kJ {α:Type} {l:List α} {p:α→Prop} {i:Nat} (h:i<l.length):At l p i↔p l[i]:=⟨fun k=>k h,fun k _=>k⟩
theorem lK {α β γ:Type} {l:List α} (d:l.length≤1048576) {p:α→Prop} {r:γ} {b:β} {L:Nat→Nat→Int→Option (Sum β γ)}
  (f:W fun n=> ∀m (i:Nat),(h:i<l.length)→L n (m+1) (i:Int)=cond (bo (p l[i])) (L n m (wrap .i64 ((i:Int)+(1:Int)))) (some (.inr r)))
  (he: ∀n m,L n (m+1) (l.length:Int)=some (.inl b)):W fun n=>L n n 0=some (cond (bo (∀x∈l,p x)) (.inl b) (.inr r)):=by
 have:=kH (len:=l.length) d (q:=At l p) (r:=r) (b:=b) (L:=L) (f.mono fun n h m i hi=>by rw [h m i hi,propext (kJ (p:=p) hi)]) he
 simpa only [qc]using this
theorem jZ {α β γ:Type} {l:List α} (g:l.length≤1048576) {p:α→Prop} {r:Int→γ} {b:β} {L:Nat→Nat→Int→Option (Sum β γ)}
  (d:W fun n=> ∀m (i:Nat),(h:i<l.length)→L n (m+1) (i:Int)=cond (bo (p l[i])) (some (.inr (r i))) (L n m (wrap .i64 ((i:Int)+(1:Int)))))
  (he: ∀n m,L n (m+1) (l.length:Int)=some (.inl b)):W fun n=>((∃x∈l,p x)∧ ∃i:Nat,L n n 0=some (.inr (r i)))∨((∀x∈l,¬p x)∧L n n 0=some (.inl b)):=by
 have:=Yr (len:=l.length) g (q:=At l p) (r:=r) (b:=b) (L:=L) (d.mono fun n h m i hi=>by rw [h m i hi,propext (kJ (p:=p) hi)]) he
 refine this.mono fun n h=> ?_
 rcases h with⟨i,hi,f,e⟩|⟨f,e⟩
 ·exact .inl ⟨⟨_,List.getElem_mem hi,(kJ hi).1 f⟩,i,e⟩
 ·refine .inr ⟨fun x d hp=> ?_,e⟩
  obtain⟨i,hi,rfl⟩:=List.mem_iff_getElem.1 d;exact f i hi ((kJ hi).2 hp)
theorem DL (i:Nat):bo ((0:Int)≤(i:Int))=true:=aB (by omega)
theorem DM:bo ((0:Int)≤(-1:Int))=false:=az (by omega)
theorem rK {α β:Type} {l:List α} {p:α→Prop} {o:Option (Int×β)} {c:β}
  (h:((∃x∈l,p x)∧ ∃i:Nat,o=some ((i:Int),c))∨((∀x∈l,¬p x)∧o=some ((-1:Int),c))):o.bind (fun y=>some (decide ((0:Int)≤y.1),y.2))=some (bo (∃x∈l,p x),c):=by
 rcases h with⟨h,i,rfl⟩|⟨h,rfl⟩
 ·simp only [Z,bR,DL,aB h]
 ·simp only [Z,bR,DM]
  rw [az (fun ⟨x,b,hp⟩=>h x b hp)]
theorem DN {α:Type} {l:List α} {p:α→Prop} {o:Option Int}
  (h:((∃x∈l,p x)∧ ∃i:Nat,o=some (i:Int))∨((∀x∈l,¬p x)∧o=some (-1:Int))):o.bind (fun y=>some (decide ((0:Int)≤y)))=some (bo (∃x∈l,p x)):=by
 rcases h with⟨h,i,rfl⟩|⟨h,rfl⟩
 ·simp only [Z,bR,DL,aB h]
 ·simp only [Z,bR,DM]
  rw [az (fun ⟨x,b,hp⟩=>h x b hp)]
theorem W.lt {len:Nat} {p:(i:Nat)→i<len→Nat→Prop} (h: ∀i (hi:i<len),W (p i hi)):W fun n=> ∀i (hi:i<len),p i hi n:=
 (W.all (p:=fun i n=> ∀hi:i<len,p i hi n) (List.range len) fun i hi=>(h i (List.mem_range.1 hi)).mono fun _ k _=>k).mono fun _ k i hi=>k i (List.mem_range.2 hi) hi
theorem mO {P Q:Prop} (h:P↔Q):bo P=bo Q:=by rw [propext h]
theorem dC {P:Prop} (h:P):(some true:Option Bool)=some (bo P):=by rw [aB h]
theorem dD {P:Prop} (h: ¬P):(some false:Option Bool)=some (bo P):=by rw [az h]
theorem de {l:O} {i:Nat} (h:i<l.length):bE l (i:Int)=some l[i]:=by
 unfold bE nth;rw [ez (by omega)]
 simp [h]
theorem W.nm {p q:Nat→Prop} (h:W p) (k: ∀n,p n→q (n+1)):W q:=W.succ (h.mono k)
theorem dQ (b:UInt8):UInt8.ofNat (Int.toNat (b.toNat:Int))=b:=by simp
theorem bu {i len:Nat} (h:i<len):decide ((i:Int)<(len:Int))=true:=ez (by omega)
theorem cp (len:Nat):decide ((len:Int)<(len:Int))=false:=hJ (by omega)
theorem Nc {α:Type} {p:α→Bool}: ∀(l:List α) (i:Nat) (h:i<l.length),i≤(l.takeWhile p).length→p l[i]=true→i+1≤(l.takeWhile p).length
 |a::l,0,_,_,hp=>by
  have hp:p a=true:=hp;simp [hp]
 |a::l,i+1,h,hi,hp=>by
  rw [List.takeWhile_cons]at hi ⊢;by_cases e:p a=true
  ·rw [if_pos e]at hi ⊢
   have:=Nc l i (by simpa using h) (by simpa using hi) hp
   simpa using this
  ·rw [if_neg e]at hi
   simp at hi
theorem Nf {α:Type} {p:α→Bool}: ∀(l:List α) (i:Nat) (h:i<l.length),p l[i]=false→(l.takeWhile p).length≤i
 |a::l,0,_,hp=>by
  have hp:p a=false:=hp;simp [hp]
 |a::l,i+1,h,hp=>by
  rw [List.takeWhile_cons];by_cases e:p a=true
  ·rw [if_pos e]
   have:=Nf l i (by simpa using h) hp
   simpa using this
  ·rw [if_neg e]
   simp
theorem mP {α:Type} (p:α→Bool) (l:List α):(l.takeWhile p).length≤l.length:=(List.takeWhile_sublist p).length_le
theorem Ng {α β:Type} {l:List α} (j:l.length≤1048576) {p:α→Bool} {L:Nat→Nat→Int→Option (Sum Int β)}
  (d:W fun n=> ∀m (i:Nat),(h:i<l.length)→L n (m+1) (i:Int)=cond (p l[i]) (L n m (wrap .i64 ((i:Int)+(1:Int)))) (some (.inl i)))
  (he: ∀n m,L n (m+1) (l.length:Int)=some (.inl (l.length:Int))):W fun n=>L n n 0=some (.inl ((l.takeWhile p).length:Int)):=by
 have:=jY (len:=l.length) (L:=fun n m i (_:Unit)=>L n m (i:Int)) (fun i _=>i≤(l.takeWhile p).length) (fun x=>x=.inl ((l.takeWhile p).length:Int)) ?_ ?_
 ·exact this.mono fun n h=>by
   obtain⟨x,f,g⟩:=h () (Nat.zero_le _);rw [←g];exact f
 ·refine d.mono fun n h m i _ hi hinv=> ?_
  have h:=h m i hi;cases b:p l[i]
  ·left
   rw [b]at h;refine⟨_,h, ?_⟩
   have:=Nf l i hi b;rw [show i=(l.takeWhile p).length by omega]
  ·right
   rw [b]at h;exact⟨(),by rw [←dx hi (by omega)];exact h,Nc l i hi hinv b⟩
 ·refine W.of fun n m _ hinv=>⟨_,he n m, ?_⟩
  have:=mP p l;rw [show l.length=(l.takeWhile p).length by omega]
theorem Yt {α:Type} (p:α→Bool) (l:List α):(l.takeWhile p).length=l.length↔ ∀x∈l,p x=true:=by
 induction l with
 |nil=>simp
 |cons a l ih=>
  rw [List.takeWhile_cons];by_cases e:p a=true
  ·simp [e,ih]
  ·simp [e]
def In (x lo hi:Int):Prop:=lo≤x∧x≤hi
end Go.Ev
namespace Go.Ev
open Go
abbrev Tr:Type:=RT (Int×Int×O×Bool)
abbrev Nd:Type:=Int×(Int×O×Bool×List Tr)
def cP (x:Nd):Tr:=.mk (x.1,x.2.1,x.2.2.1,x.2.2.2.1) x.2.2.2.2
def aE:Tr→Nd
 |.mk x k=>(x.1,x.2.1,x.2.2.1,x.2.2.2,k)
theorem Nh (x:Nd):aE (cP x)=x:=rfl
def dM (t:Tr):List Tr:=(aE t).2.2.2.2
def gI (c:UInt8):Int:=if c.toNat=42 then 8 else if c.toNat=43 then 9 else if c.toNat=63 then 10 else 0
def gX (ks:List Tr):Nd:=
 match ks with
 | [k]=>aE k
 |_=>(7,0,[],false,ks)
def gq (ks:List Tr):Nd:=
 match ks with
 | []=>(11,0,[],false,[])
 | [k]=>aE k
 |_=>(6,0,[],false,ks)
def eP (s:O) (b:Bool):Option UInt8:=cond b none s.head?
def dH (has:List Bool) (lo:Nat):Nat→List Bool
 |0=>has
 |k+1=>dH (has.set lo true) (lo+1) k
theorem kc: ∀(k:Nat) (has:List Bool) (lo:Nat),(dH has lo k).length=has.length
 |0,_,_=>rfl
 |k+1,has,lo=>by rw [dH,kc k];simp
def setB:O→List Bool→Bool→List Bool×Bool
 | [],has,b=>(has,b)
 | [lo],has,b=>(dH has lo.toNat 1,b)
 | [lo,d],has,b=>setB [d] (dH has lo.toNat 1) b
 |lo::d::hi::r,has,b=>
  if d.toNat=45∧hi.toNat≠93 then setB r (dH has lo.toNat (hi.toNat+1-lo.toNat)) (b||decide (hi.toNat<lo.toNat))
  else setB (d::hi::r) (dH has lo.toNat 1) b
theorem uo (lo:UInt8) (t:O) (has:List Bool) (b:Bool) (h:t.length<2):setB (lo::t) has b=setB t (dH has lo.toNat 1) b:=by
 match t,h with
 | [],_=>rfl
 | [d],_=>rfl
theorem DO (lo d hi:UInt8) (r:O) (has:List Bool) (b:Bool) (h: ¬(d.toNat=45∧hi.toNat≠93)):setB (lo::d::hi::r) has b=setB (d::hi::r) (dH has lo.toNat 1) b:=by
 rw [setB,if_neg h]
theorem DP (lo d hi:UInt8) (r:O) (has:List Bool) (b:Bool) (h:d.toNat=45∧hi.toNat≠93):setB (lo::d::hi::r) has b=setB r (dH has lo.toNat (hi.toNat+1-lo.toNat)) (b||decide (hi.toNat<lo.toNat)):=by
 rw [setB,if_pos h]
theorem DQ {d β:Type} {hi:Nat} {L:Nat→Int→List Bool→Option (Sum d β)} {out:List Bool→d} (g:hi<256)
  (f: ∀m (j:Nat) (h:List Bool),j≤hi→h.length=256→L (m+1) (j:Int) h=L m (wrap .i64 ((j:Int)+(1:Int))) (h.set j true))
  (he: ∀m (j:Nat) h,hi<j→L (m+1) (j:Int) h=some (.inl (out h))): ∀k m (j:Nat) h,hi+1-j=k→k<m→h.length=256→L m (j:Int) h=some (.inl (out (dH h j k)))
 |0,m,j,h,e,hm,b=>by
  obtain⟨m,rfl⟩: ∃m',m=m'+1:=⟨m-1,by omega⟩
  rw [he m j h (by omega)];rfl
 |k+1,m,j,h,e,hm,b=>by
  obtain⟨m,rfl⟩: ∃m',m=m'+1:=⟨m-1,by omega⟩
  rw [f m j h (by omega) b,show wrap .i64 ((j:Int)+(1:Int))=((j+1:Nat):Int) by rw [IntKind.wrap_i64];omega,DQ g f he k m (j+1) (h.set j true) (by omega) (by omega) (by simp [b]),dH]
def bytesOf (has:List Bool):Nat→O
 |0=>[]
 |k+1=>bytesOf has k++cond (has.getD k false) [UInt8.ofNat k] []
theorem Ni (has:List Bool): ∀k,(bytesOf has k).length≤k
 |0=>by simp [bytesOf]
 |k+1=>by
  have:=Ni has k;rw [bytesOf,List.length_append];cases has.getD k false<;>simp<;>omega
theorem Nj {b β:Type} {has:List Bool} (_:has.length=256) {L:Nat→Nat→Int→O→Option (Sum b β)} {out:O→b}
  (d: ∀n m (i:Nat) (o:O) (_:i<256),o.length≤i→L n (m+1) (i:Int) o=L n m (wrap .i64 ((i:Int)+(1:Int))) (o++cond (has.getD i false) [UInt8.ofNat i] []))
  (he: ∀n m o,L n (m+1) (256:Int) o=some (.inl (out o))):W fun n=>L n n 0 []=some (.inl (out (bytesOf has 256))):=by
 have:=jY (len:=256) (L:=fun n m i o=>L n m (i:Int) o) (fun i o=>o=bytesOf has i) (fun x=>x=.inl (out (bytesOf has 256))) ?_ ?_
 ·exact this.mono fun n h=>by
   obtain⟨x,f,g⟩:=h [] rfl;rw [←g];exact f
 ·refine W.of fun n m i o hi hinv=>.inr ⟨o++cond (has.getD i false) [UInt8.ofNat i] [], ?_,by subst hinv;rw [bytesOf]⟩
  have h:=d n m i o hi (by rw [hinv];exact Ni has i)
  rw [←dx hi (by omega)]
  exact h
 ·exact W.of fun n m o hinv=>⟨_,he n m o,by rw [hinv]⟩
theorem Nk (i:Nat) (h:i<256):UInt8.ofNat (Int.toNat (wrap .u8 (i:Int)))=UInt8.ofNat i:=by
 rw [show wrap .u8 (i:Int)=(i:Int) by rw [IntKind.wrap_u8];omega];rfl
def bH:O→O×Bool
 |c::r=>if c.toNat=94 then(r,true)else(c::r,false)
 | []=>([],false)
def aJ (c:UInt8):Bool:= !(decide (c.toNat=93))
theorem Nl: ∀l:O,Lib.indexByte l 93=if(l.takeWhile aJ).length=l.length then -1 else((l.takeWhile aJ).length:Int)
 | []=>rfl
 |a::l=>by
  have ih:=Nl l;rw [Lib.indexByte,List.takeWhile_cons];by_cases h:a.toNat=93
  ·have:a=93:=UInt8.toNat_inj.1 h
   subst this;simp [aJ]
  ·have b: ¬(a==93)=true:=by
    intro k;exact h (by rw [beq_iff_eq.1 k];rfl)
   rw [if_neg b,show aJ a=true by simp [aJ,h],if_pos rfl,ih]
   simp only [List.length_cons,Nat.add_right_cancel_iff];by_cases e:(l.takeWhile aJ).length=l.length
   ·simp [e]
   ·simp only [e,if_false]
    rw [if_neg (by simp)]
    omega
theorem DR: ∀l:O,∀c∈l.takeWhile aJ,c.toNat≠93
 |a::l,c,h=>by
  rw [List.takeWhile_cons]at h;by_cases e:aJ a=true
  ·rw [if_pos e]at h
   rcases List.mem_cons.1 h with rfl|h
   ·simpa [aJ]using e
   ·exact DR l c h
  ·rw [if_neg e]at h;cases h
theorem Nn: ∀l:O,l.take (l.takeWhile aJ).length=l.takeWhile aJ
 | []=>rfl
 |a::l=>by
  rw [List.takeWhile_cons];split
  ·rw [List.length_cons,List.take_succ_cons,Nn l]
  ·rfl
theorem getD_at {l:List Bool} {i:Nat} (h:i<l.length):l.getD i false=l[i]:=by
 rw [List.getD_eq_getElem?_getD,List.getElem?_eq_getElem h,Option.getD_some]
def dE:List Bool:=List.replicate 256 false
theorem rL:dE.length=256:=List.length_replicate
def fH (s:O):Nd×(O×Bool):=
 let s1:=(bH s).1
 let body:=s1.takeWhile aJ
 if body.length=s1.length∨body=[]then((0,0,[],false,[]),s1,true)
 else((3,0,bytesOf (setB body dE false).1 256,(bH s).2,[]),s1.drop (body.length+1),(setB body dE false).2)
def leaf (o c:Int):Nd:=(o,c,[],false,[])
def kd (c:UInt8) (r:O):Nd×(O×Bool):=
 if c.toNat=46 then(leaf 2 0,r,false)else if c.toNat=94 then(leaf 4 0,r,false)else if c.toNat=36 then(leaf 5 0,r,false)
 else if c.toNat=91 then fH r
 else if c.toNat=92 then(match r with| []=>(leaf 0 0,[],true)|d::b=>(leaf 1 d.toNat,b,false))
 else if c.toNat=42∨c.toNat=43∨c.toNat=63 then(leaf 0 0,r,true)else(leaf 1 c.toNat,r,false)
def gY (x:Nd×O×Bool):Nd×(O×Bool):=
 match eP x.2.1 x.2.2 with
 |some d=>if d.toNat=41 then(x.1,x.2.1.tail,x.2.2)else(x.1,x.2.1,true)
 |none=>(x.1,x.2.1,true)
inductive Md where
 |pat|fI (ks:List Tr)|part|ff (ks:List Tr)|piece|iA (t:Nd)|atom
def iP:Nat→Md→O→Bool→Option (Nd×O×Bool)
 |0,_,_,_=>none
 |f+1,.pat,s,b=>(iP f .part s b).bind fun r=>iP f (.fI [cP r.1]) r.2.1 r.2.2
 |f+1,.fI ks,s,b=>
  match eP s b with
  |none=>some (gX ks,s,b)
  |some c=>if c.toNat=124 then(iP f .part s.tail b).bind fun r=>iP f (.fI (ks++[cP r.1])) r.2.1 r.2.2 else some (gX ks,s,b)
 |f+1,.part,s,b=>iP f (.ff []) s b
 |f+1,.ff ks,s,b=>
  match eP s b with
  |none=>some (gq ks,s,b)
  |some c=>if c.toNat=124∨c.toNat=41 then some (gq ks,s,b)else(iP f .piece s b).bind fun r=>iP f (.ff (ks++[cP r.1])) r.2.1 r.2.2
 |f+1,.piece,s,b=>(iP f .atom s b).bind fun r=>iP f (.iA r.1) r.2.1 r.2.2
 |f+1,.iA t,s,b=>
  match eP s b with
  |none=>some (t,s,b)
  |some c=>if gI c=0 then some (t,s,b)else iP f (.iA (gI c,0,[],false,[cP t])) s.tail b
 |_+1,.atom,[],_=>none
 |f+1,.atom,c::r,b=>if c.toNat=40 then(iP f .pat r b).bind fun x=>some (gY x)else some (kd c r)
inductive gZ:Tr→Prop
 |mk {t:Tr} (h:(dM t).length≤100) (k: ∀x∈dM t,gZ x):gZ t
def mQ (x:Nd):Prop:=x.2.2.2.2.length≤100∧ ∀k∈x.2.2.2.2,gZ k
theorem eW {x:Nd} (h:mQ x):gZ (cP x):=.mk h.1 h.2
theorem No {t:Tr} (h:gZ t):mQ (aE t):=by
 obtain⟨h,k⟩:=h;exact⟨h,k⟩
theorem Yu (o c:Int):mQ (leaf o c):=⟨by simp [leaf],by simp [leaf]⟩
def ke:Md→O→Prop
 |.fI ks,s=>ks.length+s.length≤61∧ ∀k∈ks,gZ k
 |.ff ks,s=>ks.length+s.length≤61∧ ∀k∈ks,gZ k
 |.iA t,_=>mQ t
 |_,_=>True
def dR:Md→Nat→Nat→Prop
 |.atom,a,b=>a<b
 |.piece,a,b=>a<b
 |_,a,b=>a≤b
def lL:Md→O→Bool→Prop
 |.atom,s,b=>s≠ []∧b=false
 |.piece,s,b=>s≠ []∧b=false
 |_,_,_=>True
theorem fJ {s:O} {b:Bool} {c:UInt8} (h:eP s b=some c):b=false∧s=c::s.tail:=by
 unfold eP at h;cases b
 ·refine⟨rfl, ?_⟩
  cases s with
  |nil=>simp at h
  |cons a r=>simp at h;subst h;rfl
 ·simp at h
theorem Np {ks:List Tr} (h:ks.length≤100) (k: ∀x∈ks,gZ x):mQ (gX ks):=by
 match ks,h,k with
 | [a],_,k=>exact No (k a (by simp))
 | [],_,_=>exact⟨by simp [gX],by simp [gX]⟩
 |a::b::r,h,k=>exact⟨h,k⟩
theorem Nq {ks:List Tr} (h:ks.length≤100) (k: ∀x∈ks,gZ x):mQ (gq ks):=by
 match ks,h,k with
 | [a],_,k=>exact No (k a (by simp))
 | [],_,_=>exact⟨by simp [gq],by simp [gq]⟩
 |a::b::r,h,k=>exact⟨h,k⟩
theorem Nr (s:O):(bH s).1.length≤s.length:=by
 cases s with
 |nil=>simp [bH]
 |cons c r=>
  show(if c.toNat=94 then(r,true)else(c::r,false)).1.length≤_
  split<;>simp
theorem Yv (s:O):mQ (fH s).1∧(fH s).2.1.length≤s.length:=by
 have:=Nr s;unfold fH;simp only;split
 ·exact⟨⟨by simp,by simp⟩,this⟩
 ·exact⟨⟨by simp,by simp⟩,by simp;omega⟩
theorem Ns (c:UInt8) (r:O):mQ (kd c r).1∧(kd c r).2.1.length≤r.length:=by
 have:=Yv r;unfold kd;repeat' split
 all_goals first
  |exact this
  |exact⟨Yu _ _,by simp⟩
theorem Nu (x:Nd×O×Bool):(gY x).1=x.1∧(gY x).2.1.length≤x.2.1.length∧(x.2.2=true→(gY x).2.2=true):=by
 unfold gY;repeat' split
 all_goals refine⟨rfl, ?_, ?_⟩
 all_goals simp
theorem eJ: ∀f md s b r,iP f md s b=some r→s.length≤60→lL md s b→ke md s→mQ r.1∧dR md r.2.1.length s.length∧(b=true→r.2.2=true):=by
 intro f;induction f with
 |zero=>intro md s b r h;simp [iP]at h
 |succ f ih=>
  intro md s b r h q m d;cases md with
  |pat=>
   simp only [iP,Option.bind_eq_some_iff]at h;obtain⟨x,g,i⟩:=h;obtain⟨j,a2,a3⟩:=ih _ _ _ _ g q trivial trivial;simp only [dR]at a2;obtain⟨c1,c2,p⟩:=ih _ _ _ _ i (by omega) trivial ⟨by simp;omega,by simpa using eW j⟩
   simp only [dR]at c2 ⊢;exact⟨c1,by omega,fun k=>p (a3 k)⟩
  |fI ks=>
   simp only [iP]at h;split at h
   ·cases h;exact⟨Np (by have:=d.1;omega) d.2,Nat.le_refl _,id⟩
   ·rename_i c u
    obtain⟨rfl,e⟩:=fJ u;have hl:s.length=s.tail.length+1:=by rw [e];simp
    split at h
    ·simp only [Option.bind_eq_some_iff]at h
     obtain⟨x,g,i⟩:=h;obtain⟨j,a2,a3⟩:=ih _ _ _ _ g (by omega) trivial trivial
     simp only [dR]at a2;obtain⟨c1,c2,p⟩:=ih _ _ _ _ i (by omega) trivial ⟨by have:=d.1;simp;omega,by
      intro k hk;rcases List.mem_append.1 hk with hk|hk
      ·exact d.2 k hk
      ·simp at hk;subst hk;exact eW j⟩
     simp only [dR]at c2 ⊢;exact⟨c1,by omega,fun k=>by cases k⟩
    ·cases h;exact⟨Np (by have:=d.1;omega) d.2,Nat.le_refl _,id⟩
  |part=>
   simp only [iP]at h;have:=ih (.ff []) _ _ _ h q trivial ⟨by simp;omega,by simp⟩
   exact this
  |ff ks=>
   simp only [iP]at h;split at h
   ·cases h;exact⟨Nq (by have:=d.1;omega) d.2,Nat.le_refl _,id⟩
   ·rename_i c u
    obtain⟨rfl,e⟩:=fJ u;split at h
    ·cases h;exact⟨Nq (by have:=d.1;omega) d.2,Nat.le_refl _,id⟩
    ·simp only [Option.bind_eq_some_iff]at h
     obtain⟨x,g,i⟩:=h;obtain⟨j,a2,a3⟩:=ih _ _ _ _ g q ⟨by rw [e];simp,rfl⟩ trivial
     simp only [dR]at a2;obtain⟨c1,c2,p⟩:=ih _ _ _ _ i (by omega) trivial ⟨by have:=d.1;simp;omega,by
      intro k hk;rcases List.mem_append.1 hk with hk|hk
      ·exact d.2 k hk
      ·simp at hk;subst hk;exact eW j⟩
     simp only [dR]at c2 ⊢;exact⟨c1,by omega,fun k=>by cases k⟩
  |piece=>
   simp only [iP,Option.bind_eq_some_iff]at h;obtain⟨x,g,i⟩:=h;obtain⟨j,a2,a3⟩:=ih _ _ _ _ g q m trivial;simp only [dR]at a2;obtain⟨c1,c2,p⟩:=ih _ _ _ _ i (by omega) trivial j
   simp only [dR]at c2 ⊢;exact⟨c1,by omega,fun k=>p (a3 k)⟩
  |iA t=>
   simp only [iP]at h;split at h
   ·cases h;exact⟨d,Nat.le_refl _,id⟩
   ·rename_i c u
    obtain⟨rfl,e⟩:=fJ u;have hl:s.length=s.tail.length+1:=by rw [e];simp
    split at h
    ·cases h;exact⟨d,Nat.le_refl _,id⟩
    ·obtain⟨c1,c2,p⟩:=ih _ _ _ _ h (by omega) trivial ⟨by simp,by simpa using eW d⟩
     simp only [dR]at c2 ⊢;exact⟨c1,by omega,fun k=>by cases k⟩
  |atom=>
   obtain⟨z,rfl⟩:=m;cases s with
   |nil=>exact absurd rfl z
   |cons c rr=>
    simp only [List.length_cons]at q;simp only [iP]at h;split at h
    ·simp only [Option.bind_eq_some_iff]at h
     obtain⟨x,g,i⟩:=h;obtain⟨j,a2,a3⟩:=ih _ _ _ _ g (by omega) trivial trivial
     cases i;obtain⟨e1,e2,e3⟩:=Nu x;simp only [dR]at a2;rw [e1];exact⟨j,by simp only [dR,List.length_cons];omega,fun k=>by cases k⟩
    ·cases h
     obtain⟨e1,e2⟩:=Ns c rr;exact⟨e1,by simp only [dR,List.length_cons];omega,fun k=>by cases k⟩
def ft:Md→Nat→Nat
 |.atom,l=>8*l+1
 |.piece,l=>8*l+2
 |.ff _,l=>8*l+3
 |.part,l=>8*l+4
 |.pat,l=>8*l+5
 |.fI _,l=>8*l+1
 |.iA _,l=>8*l+1
theorem Yw: ∀f md s b,ft md s.length≤f→s.length≤60→lL md s b→ke md s→ ∃r,iP f md s b=some r:=by
 intro f;induction f with
 |zero=>intro md s b h;cases md<;>simp [ft]at h
 |succ f ih=>
  intro md s b m p g i;cases md with
  |pat=>
   simp only [ft]at m;obtain⟨x,d⟩:=ih .part s b (by simp only [ft];omega) p trivial trivial
   obtain⟨q,a2,a3⟩:=eJ _ _ _ _ _ d p trivial trivial;simp only [dR]at a2;obtain⟨y,u⟩:=ih (.fI [cP x.1]) x.2.1 x.2.2 (by simp only [ft];omega) (by omega) trivial ⟨by simp;omega,by simpa using eW q⟩
   exact⟨y,by simp only [iP,d,Z,u]⟩
  |fI ks=>
   simp only [ft]at m;simp only [iP];split
   ·exact⟨_,rfl⟩
   ·rename_i c z
    obtain⟨rfl,e⟩:=fJ z;have hl:s.length=s.tail.length+1:=by rw [e];simp
    split
    ·obtain⟨x,d⟩:=ih .part s.tail false (by simp only [ft];omega) (by omega) trivial trivial
     obtain⟨q,a2,a3⟩:=eJ _ _ _ _ _ d (by omega) trivial trivial
     simp only [dR]at a2;obtain⟨y,u⟩:=ih (.fI (ks++[cP x.1])) x.2.1 x.2.2 (by simp only [ft];omega) (by omega) trivial ⟨by have:=i.1;simp;omega,by
      intro k hk;rcases List.mem_append.1 hk with hk|hk
      ·exact i.2 k hk
      ·simp at hk;subst hk;exact eW q⟩
     exact⟨y,by rw [d];exact u⟩
    ·exact⟨_,rfl⟩
  |part=>
   simp only [ft]at m;simp only [iP];exact ih _ _ _ (by simp only [ft];omega) p trivial ⟨by simp;omega,by simp⟩
  |ff ks=>
   simp only [ft]at m;simp only [iP];split
   ·exact⟨_,rfl⟩
   ·rename_i c z
    obtain⟨rfl,e⟩:=fJ z;split
    ·exact⟨_,rfl⟩
    ·have j:lL .piece s false:=⟨by rw [e];simp,rfl⟩
     obtain⟨x,d⟩:=ih .piece s false (by simp only [ft];omega) p j trivial
     obtain⟨q,a2,a3⟩:=eJ _ _ _ _ _ d (by omega) j trivial
     simp only [dR]at a2;obtain⟨y,u⟩:=ih (.ff (ks++[cP x.1])) x.2.1 x.2.2 (by simp only [ft];omega) (by omega) trivial ⟨by have:=i.1;simp;omega,by
      intro k hk;rcases List.mem_append.1 hk with hk|hk
      ·exact i.2 k hk
      ·simp at hk;subst hk;exact eW q⟩
     exact⟨y,by rw [d];exact u⟩
  |piece=>
   simp only [ft]at m;obtain⟨x,d⟩:=ih .atom s b (by simp only [ft];omega) p g trivial
   obtain⟨q,a2,a3⟩:=eJ _ _ _ _ _ d p g trivial;simp only [dR]at a2;obtain⟨y,u⟩:=ih (.iA x.1) x.2.1 x.2.2 (by simp only [ft];omega) (by omega) trivial q
   exact⟨y,by simp only [iP,d,Z,u]⟩
  |iA t=>
   simp only [ft]at m;simp only [iP];split
   ·exact⟨_,rfl⟩
   ·rename_i c z
    obtain⟨rfl,e⟩:=fJ z;have hl:s.length=s.tail.length+1:=by rw [e];simp
    split
    ·exact⟨_,rfl⟩
    ·exact ih _ _ _ (by simp only [ft];omega) (by omega) trivial ⟨by simp,by simpa using eW i⟩
  |atom=>
   obtain⟨ad,rfl⟩:=g;cases s with
   |nil=>exact absurd rfl ad
   |cons c rr=>
    simp only [ft,List.length_cons]at m p;simp only [iP];split
    ·obtain⟨x,d⟩:=ih .pat rr false (by simp only [ft];omega) (by omega) trivial trivial
     exact⟨gY x,by rw [d];rfl⟩
    ·exact⟨_,rfl⟩
mutual
def df:Tr→Int
 |.mk _ ks=>wrap .i64 (fT 0 ks+1)
def fT:Int→List Tr→Int
 |a,[]=>a
 |a,t::r=>fT (cond (decide (a<df t)) (df t) a) r
end
def gJ (s:O):Int×(Int×O×Bool×List Tr×Bool):=
 if s.length≤60 then
  match iP 1000 .pat s false with
  |some r=>if r.2.2=false∧r.2.1=[]∧df (cP r.1)≤12 then(r.1.1,r.1.2.1,r.1.2.2.1,r.1.2.2.2.1,r.1.2.2.2.2,true)else(0,0,[],false,[],false)
  |none=>(0,0,[],false,[],false)
 else(0,0,[],false,[],false)
end Go.Ev
namespace Go.Ev
open Go
def bp (c:UInt8):Bool:=decide (48≤c.toNat∧c.toNat≤57)
def fv (c:UInt8):Bool:=decide (c.toNat=32)
def iB (c:UInt8):Bool:=decide (c.toNat=48)
def cU (l:O):Nat:=l.foldl (fun a c=>a*10+(c.toNat-48)) 0
def dI:Nat→O→Nat
 |_,[]=>0
 |u,c::l=>(c.toNat-48)*u+dI (u/10) l
theorem Yx (l:O) (c:UInt8):cU (l++[c])=cU l*10+(c.toNat-48):=by
 unfold cU;rw [List.foldl_append];rfl
theorem DS: ∀(l:O) (a:Nat),l.foldl (fun a c=>a*10+(c.toNat-48)) a=a*10^l.length+cU l
 | [],a=>by simp [cU]
 |c::l,a=>by
  have b:=DS l (a*10+(c.toNat-48));have d:=DS l (0*10+(c.toNat-48));have f:cU (c::l)=(0*10+(c.toNat-48))*10^l.length+cU l:=d;rw [List.foldl_cons,b,f,List.length_cons,Nat.pow_succ,Nat.add_mul,Nat.add_mul,Nat.zero_mul,Nat.mul_comm (10^l.length) 10,Nat.mul_assoc];simp only [Nat.zero_add,Nat.add_assoc]
theorem DT (a b:O):cU (a++b)=cU a*10^b.length+cU b:=by
 show(a++b).foldl _ 0=_;rw [List.foldl_append,DS];rfl
theorem rM (c:UInt8) (l:O):cU (c::l)=(c.toNat-48)*10^l.length+cU l:=by
 have:=DT [c] l;rw [List.singleton_append]at this;rw [this];simp [cU]
theorem Nv: ∀(l:O) (a:Nat),(∀c∈l,bp c=true)→Lib.decFrom a l=some (a*10^l.length+cU l)
 | [],a,_=>by simp [Lib.decFrom,cU]
 |c::l,a,h=>by
  have b:=h c (by simp)
  simp only [bp,decide_eq_true_eq]at b;have d:=Nv l (a*10+(c.toNat-48)) fun x f=>h x (by simp [f])
  rw [Lib.decFrom,Lib.digitVal,if_pos b];simp only;rw [d,rM,List.length_cons,Nat.pow_succ,Nat.add_mul,Nat.mul_comm (10^l.length) 10,←Nat.mul_assoc];congr 1
  omega
theorem DU: ∀l:O,dI 0 l=0
 | []=>rfl
 |c::l=>by rw [dI];simp [DU l]
theorem DW: ∀(l:O) (k:Nat),(∀c∈l,bp c=true)→dI (10^k) l<10^(k+1)
 | [],k,_=>by rw [dI];exact Nat.pow_pos (by omega)
 |c::l,k,h=>by
  have b:=h c (by simp)
  simp only [bp,decide_eq_true_eq]at b;rw [dI];cases k with
  |zero=>
   simp [DU]
   omega
  |succ k=>
   have f:=DW l k fun x d=>h x (by simp [d])
   have e:10^(k+1)/10=10^k:=by rw [Nat.pow_succ];omega
   have:(c.toNat-48)*10^(k+1)≤9*10^(k+1):=Nat.mul_le_mul_right _ (by omega)
   rw [e,Nat.pow_succ 10 (k+1)];omega
def fg (k:Nat):O:=List.replicate k 48
theorem Nw: ∀k,cU (fg k)=0
 |0=>rfl
 |k+1=>by
  show cU (48::fg k)=0;rw [rM,Nw k];simp
theorem Nx: ∀(k:Nat) (l:O),cU ((l++fg (k+1)).take (k+1))=dI (10^k) l
 |k,[]=>by
  rw [List.nil_append,List.take_of_length_le (by simp [fg]),Nw]
  rfl
 |0,c::l=>by
  rw [List.cons_append,List.take_succ_cons,dI];simp [cU,DU]
 |k+1,c::l=>by
  have e:(l++fg (k+2)).take (k+1)=(l++fg (k+1)).take (k+1):=by
   have:fg (k+2)=fg (k+1)++[48]:=List.replicate_succ';rw [this,←List.append_assoc,List.take_append_of_le_length (by simp [fg])]
  rw [List.cons_append,List.take_succ_cons,rM,e,Nx k l,dI];have b:((l++fg (k+1)).take (k+1)).length=k+1:=by simp [fg]
  have d:10^(k+1)/10=10^k:=by rw [Nat.pow_succ];omega
  rw [b,d]
def jC (s:O) (k:Nat) (neg:Bool):Int×Int:=
 let w:=(s.drop k).takeWhile bp
 let q:=match s.drop (k+w.length)with
  |c::t=>if c.toNat=46 then t.takeWhile bp else []
  | []=>[]
 let x:=cU w*1000000+dI 100000 q
 if w=[]∧q=[]then(0,0)else if 9000000000000<x then(0,0)else(cond neg (-(x:Int)) x,((k+w.length+(if q=[]then 0 else 1+q.length):Nat):Int))
def lM (s:O):Int×Int:=
 let p:=(s.takeWhile fv).length
 match s.drop p with
 |c::_=>if c.toNat=45 then jC s (p+1) true else if c.toNat=43 then jC s (p+1) false else jC s p false
 | []=>jC s p false
noncomputable def fw (s:O):Int×Bool:=
 if(lM s).2=0 then(0,false)else cond (bo (∀c∈s.drop (lM s).2.toNat,c.toNat=32)) ((lM s).1,true) (0,false)
def PW (l:O) (x:Int):Prop:=0≤x∧x≤90009000000000∧(cU l*1000000≤9000000000000→x=cU l*1000000)∧(9000000000000<cU l*1000000→9000000000000<x)
theorem Yy:PW [] 0:=by simp [PW,cU]
theorem Yz {l:O} {x:Int} (h:PW l x) {c:UInt8} (f:bp c=true):PW (l++[c]) (if x≤9000000000000 then 10*x+((c.toNat:Int)-48)*1000000 else x):=by
 simp only [bp,decide_eq_true_eq]at f;obtain⟨g,i,b,j⟩:=h;unfold PW;rw [Yx];by_cases d:x≤9000000000000
 ·rw [if_pos d]
  have:cU l*1000000≤9000000000000:=by
   rcases Nat.lt_or_ge 9000000000000 (cU l*1000000)with q|q
   ·have:=j q;omega
   ·exact q
  have:=b this;refine⟨by omega,by omega,fun _=>by omega,fun _=>by omega⟩
 ·rw [if_neg d]
  have:9000000000000<cU l*1000000:=by
   rcases Nat.lt_or_ge 9000000000000 (cU l*1000000)with q|q
   ·exact q
   ·have:=b q;omega
  refine⟨g,i,fun _=>by omega,fun _=>by omega⟩
theorem DX (l:O): ∀c∈l.takeWhile bp,bp c=true:=by
 intro c b;induction l with
 |nil=>cases b
 |cons a l ih=>
  rw [List.takeWhile_cons]at b;by_cases e:bp a=true
  ·rw [if_pos e]at b
   rcases List.mem_cons.1 b with rfl|b
   ·exact e
   ·exact ih b
  ·rw [if_neg e]at b;cases b
theorem Ny: ∀l:O,cU (l.dropWhile iB)=cU l
 | []=>rfl
 |c::l=>by
  rw [List.dropWhile_cons];by_cases h:iB c=true
  ·rw [if_pos h,Ny l,rM]
   simp only [iB,decide_eq_true_eq]at h;rw [h];simp
  ·rw [if_neg h]
theorem Nz: ∀l:O,(∀c∈l,bp c=true)→7<(l.dropWhile iB).length→10000000≤cU l
 | [],_,h=>by simp at h
 |c::l,hd,h=>by
  rw [List.dropWhile_cons]at h;by_cases e:iB c=true
  ·rw [if_pos e]at h
   have:=Nz l (fun x b=>hd x (by simp [b])) h
   rw [rM];omega
  ·rw [if_neg e]at h
   have d:=hd c (by simp)
   simp only [iB,decide_eq_true_eq]at e;simp only [bp,decide_eq_true_eq]at d;simp only [List.length_cons]at h;have f:10^7≤10^l.length:=Nat.pow_le_pow_right (by omega) (by omega)
   have g:1*10^l.length≤(c.toNat-48)*10^l.length:=Nat.mul_le_mul_right _ (by omega)
   rw [rM];omega
theorem YA (l:O) (h: ∀c∈l,bp c=true): ∀c∈l.dropWhile iB,bp c=true:=fun c b=>h c ((List.dropWhile_sublist _).subset b)
theorem YB (l:O) (h: ∀c∈l,bp c=true) (k:Nat): ∀c∈(l++fg k).take k,bp c=true:=by
 intro c b;have:=List.mem_of_mem_take b;rcases List.mem_append.1 this with q|q
 ·exact h c q
 ·unfold fg at q
  rw [List.eq_of_mem_replicate q];rfl
theorem YC (w q:O) (hw: ∀c∈w,bp c=true) (d: ∀c∈q,bp c=true):
  Lib.atoi (([48]++w.dropWhile iB)++(q++fg 6).take 6)=some ((cU w*1000000+dI 100000 q:Nat):Int):=by
 have f: ∀c∈(([48]++w.dropWhile iB)++(q++fg 6).take 6:O),bp c=true:=by
  intro c g;rcases List.mem_append.1 g with k|k
  ·rcases List.mem_append.1 k with k|k
   ·rw [List.mem_singleton.1 k];rfl
   ·exact YA w hw c k
  ·exact YB q d 6 c k
 have b:=Nv _ 0 f;have h:cU (([48]++w.dropWhile iB)++(q++fg 6).take 6:O)=cU w*1000000+dI 100000 q:=by
  rw [DT,DT,Ny,Nx 5 q];have:((q++fg 6).take 6).length=6:=by simp [fg]
  rw [this];simp [cU]
 rw [h,Nat.zero_mul,Nat.zero_add]at b;have i:Lib.atoi (([48]++w.dropWhile iB)++(q++fg 6).take 6)=(Lib.decNat (([48]++w.dropWhile iB)++(q++fg 6).take 6)).map fun(m:Nat)=>(m:Int):=rfl
 rw [i];unfold Lib.decNat;rw [if_neg (by simp),b]
 rfl
end Go.Ev
namespace Go.Ev
open Go
def Letter (b:UInt8):Prop:=(97≤b.toNat∧b.toNat≤122)∨(65≤b.toNat∧b.toNat≤90)
def xT:List O:=[[66,69,71,73,78],[112,114,105,110,116],[105,102],[101,108,115,101],[119,104,105,108,101],[110,101,120,116],[100,101,108,101,116,101],[78,82],[78,70]]
def iC:List O:=[[108,101,110,103,116,104],[115,117,98,115,116,114],[105,110,100,101,120],[105,110,116],[117,112,112,101,114],[108,111,119,101,114]]
def Key (s:O):Prop:=s∈xT∨s∈iC
def iZ (s:O):Prop:=(∀b∈s,Letter b)∧1≤s.length∧s.length≤8∧ ¬Key s
def kf (l:List O) (i:Nat):Prop:= ∀h:i<l.length,0<i→Op.bytesLess (l[i-1]'(by omega)) l[i]=true
def aV (x:Int):Prop:=In x (-9000000000000) 9000000000000
def iD (c k:Int) (s:O) (n vars cells:Int):Prop:=
 (c=1∧aV k∧s=[])∨(c=2∧k=0)∨((c=3∨c=4∨c=5)∧0≤k∧k<vars∧s=[])∨((c=6∨c=7∨c=8∨c=35)∧0≤k∧k<cells∧s=[])∨
 ((c=24∨c=25)∧k=0∧(gJ s).2.2.2.2.2=true)∨(c=29∧1≤k∧k≤3∧s∈iC)∨((c=30∨c=31)∧0≤k∧k≤n-1∧s=[])∨(c=33∧0≤k∧k≤1∧s=[])∨
 (1≤c∧c≤36∧c≠1∧c≠2∧c≠3∧c≠4∧c≠5∧c≠6∧c≠7∧c≠8∧c≠35∧c≠24∧c≠25∧c≠29∧c≠30∧c≠31∧c≠33∧k=0∧s=[])
def fx (l:List (Int×Int×O)) (vars cells:Int):Prop:=
 1≤l.length∧l.length≤1500∧(∀h:0<l.length,(l[l.length-1]'(by omega)).1=36)∧ ∀o∈l,iD o.1 o.2.1 o.2.2 l.length vars cells
def jD (vars cells:List O) (start main:List (Int×Int×O)):Prop:=
 (∀s∈vars,iZ s)∧(∀s∈vars,s∉cells)∧(∀i,i<vars.length→kf vars i)∧(∀s∈cells,iZ s)∧(∀i,i<cells.length→kf cells i)∧vars.length≤8∧cells.length≤8∧fx start vars.length cells.length∧fx main vars.length cells.length
def gu (k x:Int) (s:O):Prop:=aV x∧s.length≤300∧((k=0∧x=0∧s=[])∨(k=1∧s=[])∨(k=2∧x=0)∨(k=3∧fw s=(x,true)))
def dX (a:Int) (s:O) (b:Int) (t:O):Prop:=a<b∨(a=b∧Op.bytesLess s t=true)
def ot (l:List (Int×O×Int×Int×O)) (cells:Int) (i:Nat):Prop:=
 ∀h:i<l.length,0≤l[i].1∧l[i].1<cells∧l[i].2.1.length≤300∧gu l[i].2.2.1 l[i].2.2.2.1 l[i].2.2.2.2∧(0<i→dX (l[i-1]'(by omega)).1 (l[i-1]'(by omega)).2.1 l[i].1 l[i].2.1)
def kh (vs:List (Int×Int×O)) (cs:List (Int×O×Int×Int×O)) (nr err vars cells:Int):Prop:=
 (∀v∈vs,gu v.1 v.2.1 v.2.2)∧(∀i,i<cs.length→ot cs cells i)∧(vs.length:Int)=vars∧cs.length≤40∧In nr 0 1000000∧In err 0 7
def ou (vars cells:List O) (start main:List (Int×Int×O)) (vs:List (Int×Int×O)) (cs:List (Int×O×Int×Int×O)) (nr err:Int) (done:List Int) (out:O):Prop:=
 (∀x∈done,In x 0 100000)∧jD vars cells start main∧kh vs cs nr err vars.length cells.length∧done.length=3∧out.length≤1500
def eD (d seq:Int) (s:O):Prop:=(d= -1∧seq=0∧s=[])∨(0≤d∧d≤2∧1≤seq∧seq≤100000∧s.length≤60∧ ∀b∈s,b.toNat≠10)
def ox (base term:Int) (l:List (Int×Int×Int×O)):Int×Int:=match l.getLast? with|none=>(base,term)|some e=>(wrap .i64 (base+l.length),e.1)
def oy:Int→List (Int×Int×Int×O)→Prop
 |_,[]=>True
 |t,e::r=>In e.1 t 300∧eD e.2.1 e.2.2.1 e.2.2.2∧oy e.1 r
def qd (base term:Int) (l:List (Int×Int×Int×O)):Prop:=In base 0 300∧In term 0 300∧base+l.length≤300∧oy term l
def uq (vars cells:List O) (start main:List (Int×Int×O)) (tm b base d:Int) (l:List (Int×Int×Int×O)) (vs:List (Int×Int×O)) (cs:List (Int×O×Int×Int×O)) (nr err:Int) (done:List Int) (out:O):Prop:=
 In tm 0 300∧In b (-1) 4∧qd base d l∧(ox base d l).2≤tm∧ou vars cells start main vs cs nr err done out
def lN (b:Int) (e:Int×Int×Int×O):Prop:=In e.1 0 b∧eD e.2.1 e.2.2.1 e.2.2.2
def DY (k f t tm b it d:Int) (l:List (Int×Int×Int×O)) (snap:O) (size:Int):Prop:=
 In k 1 5∧In size 1 5∧In f 0 (wrap .i64 (size-1))∧In t 0 (wrap .i64 (size-1))∧f≠t∧In tm 0 300∧In b 0 300∧In it 0 300∧In d 0 300∧(∀e∈l,lN tm e)∧l.length≤40∧snap.length≤30000
end Go.Ev
namespace Go.Ev
open Go
abbrev V:=Int×(Int×O)
abbrev VC:=Int×(O×V)
def bP (v:V):Prop:=gu v.1 v.2.1 v.2.2
def v0:V:=(0,0,[])
def nV (x:Int):V:=(1,x,[])
def tV (s:O):V:=(2,0,s)
def bV (b:Bool):V:=nV (cond b 1000000 0)
noncomputable def aI (v:V):Int:=cond (v.1==1) v.2.1 (cond (v.1==3) v.2.1 (cond (v.1==2) (lM v.2.2).1 0))
def gK (v:V):Bool:=cond (v.1==1) (v.2.1 !=0) (cond (v.1==3) (v.2.1 !=0) (cond (v.1==2) (!(v.2.2==([]:O))) false))
noncomputable def mR (s:O):V:=cond (fw (s.take 300)).2 (3,(fw (s.take 300)).1,s.take 300) (2,0,s.take 300)
theorem eE {a:Int} (h:aV a): -9000000000000≤a∧a≤9000000000000:=h
theorem fU {a:Int} (h: -9000000000000≤a∧a≤9000000000000):aV a:=h
noncomputable def lO (x:Int):Int×Bool:=cond (bo (aV x)) (x,true) (0,false)
noncomputable def fV (a b:Int):Int×Bool:=cond (bo (aV a∧aV b)) (lO (a+b)) (0,false)
noncomputable def ja (a b:Int):Int×Bool:=cond (bo (aV a∧aV b)) (lO (a-b)) (0,false)
noncomputable def hC (a b:Int):Int×Bool:=cond (bo (aV a∧aV b∧b≠0)) (lO (Int.tdiv (a*1000000) b)) (0,false)
def fW (a b:Int):Nat:=a.natAbs*b.natAbs/1000000
noncomputable def fK (a b:Int):Int×Bool:=cond (bo (aV a∧aV b∧fW a b≤9000000000000)) (if (a<0↔b<0)then(fW a b:Int)else -(fW a b:Int),true) (0,false)
def jb (a:Int):Int:=a-Int.tmod a 1000000
theorem qe:aV 0:=fU (by omega)
theorem rN:bP v0:=⟨qe,by simp [v0],.inl ⟨rfl,rfl,rfl⟩⟩
theorem lP {x:Int} (h:aV x):bP (nV x):=⟨h,by simp [nV],.inr (.inl ⟨rfl,rfl⟩)⟩
theorem rO {s:O} (h:s.length≤300):bP (tV s):=⟨qe,h,.inr (.inr (.inl ⟨rfl,rfl⟩))⟩
theorem ur (b:Bool):bP (bV b):=by
 refine lP (fU ?_)
 cases b<;>simp
theorem uu {x:Int} (h:aV x):lO x=(x,true):=by rw [lO,aB h];rfl
theorem uw {x:Int} (h: ¬aV x):lO x=(0,false):=by rw [lO,az h];rfl
theorem DZ (x:Int):aV (lO x).1:=by
 by_cases h:aV x
 ·rw [uu h];exact h
 ·rw [uw h];exact fU (by omega)
theorem YD (a b:Int):aV (fV a b).1:=by
 unfold fV;cases bo _
 ·exact fU (show _∧_ by simp)
 ·exact DZ _
theorem YE (a b:Int):aV (ja a b).1:=by
 unfold ja;cases bo _
 ·exact fU (show _∧_ by simp)
 ·exact DZ _
theorem YF (a b:Int):aV (hC a b).1:=by
 unfold hC;cases bo _
 ·exact fU (show _∧_ by simp)
 ·exact DZ _
theorem YG (a b:Int):aV (fK a b).1:=by
 by_cases h:aV a∧aV b∧fW a b≤9000000000000
 ·rw [fK,aB h]
  simp only [Y];split
  ·exact fU (by omega)
  ·exact fU (by omega)
 ·rw [fK,az h];exact fU (by simp)
theorem xU (a:Int): -1000000<Int.tmod a 1000000∧Int.tmod a 1000000<1000000:=⟨by have:=Int.lt_tmod_of_pos a (show (0:Int)<1000000 by omega);omega,Int.tmod_lt_of_pos a (by omega)⟩
theorem YH {a:Int} (h:aV a):aV (jb a):=by
 have d:=eE h;have f:=Int.mul_tdiv_add_tmod a 1000000;have g:=xU a;refine fU ?_
 unfold jb;by_cases b:0≤a
 ·have:=Int.tmod_nonneg 1000000 b;omega
 ·have:Int.tmod a 1000000≤0:=by
   have:=Int.tmod_nonneg 1000000 (show 0≤ -a by omega)
   rw [Int.neg_tmod]at this;omega
  omega
theorem YI (q w:O) (x:Nat) (e:Int) (neg:Bool):aV (if w=[]∧q=[]then((0:Int),(0:Int))else if 9000000000000<x then(0,0)else(cond neg (-(x:Int)) x,e)).1:=by
 split
 ·exact qe
 split
 ·exact qe
 ·refine fU ?_
  cases neg
  ·simp only [da];omega
  ·simp only [Y];omega
theorem xV (s:O) (k:Nat) (neg:Bool):aV (jC s k neg).1:=YI _ _ _ _ _
theorem NA (s:O):aV (lM s).1:=by
 unfold lM;simp only;split
 ·split
  ·exact xV _ _ _
  split
  ·exact xV _ _ _
  ·exact xV _ _ _
 ·exact xV _ _ _
theorem YJ (s:O):aV (fw s).1:=by
 unfold fw;split
 ·exact qe
 ·cases bo _
  ·exact qe
  ·exact NA s
theorem jE {v:V} (h:bP v):aV (aI v):=by
 unfold aI;cases v.1==1
 ·cases v.1==3
  ·cases v.1==2
   ·exact qe
   ·exact NA _
  ·exact h.1
 ·exact h.1
theorem Ea (s:O):bP (mR s):=by
 unfold mR;cases e:(fw (s.take 300)).2
 ·exact rO (by simp;omega)
 ·refine⟨YJ _,by simp;omega,.inr (.inr (.inr ⟨rfl, ?_⟩))⟩
  simp only [Y];rw [←e]
end Go.Ev
namespace Go.Ev
open Go
def jF (s:O):Prop:=s.Pairwise fun a b=>a.toNat<b.toNat
def xW (s:O) (neg:Bool):Prop:=s≠ []∧jF s∧((93:UInt8)∈s→ ∃p q,s=p++([92,93,94]++q))∧(neg=true∨s≠ [94])
def Eb (o c:Int) (s:O) (neg:Bool) (k:Nat):Prop:=
 (o=1∧0≤c∧c≤255∧s=[]∧neg=false∧k=0)∨(o=3∧c=0∧xW s neg∧k=0)∨((o=6∨o=7)∧c=0∧s=[]∧neg=false∧2≤k)∨
 ((o=8∨o=9∨o=10)∧c=0∧s=[]∧neg=false∧k=1)∨((o=2∨o=4∨o=5∨o=11)∧c=0∧s=[]∧neg=false∧k=0)
inductive fL:Tr→Prop
 |mk {t:Tr} (h:Eb (aE t).1 (aE t).2.1 (aE t).2.2.1 (aE t).2.2.2.1 (dM t).length) (k: ∀x∈dM t,fL x):fL t
def ki (x:Nd):Prop:=Eb x.1 x.2.1 x.2.2.1 x.2.2.2.1 x.2.2.2.2.length∧ ∀k∈x.2.2.2.2,fL k
theorem xX {x:Nd} (h:ki x):fL (cP x):=.mk h.1 h.2
theorem NB {t:Tr} (h:fL t):ki (aE t):=by
 obtain⟨h,k⟩:=h;exact⟨h,k⟩
mutual
def eb:Tr→Nat
 |.mk _ ks=>1+cw ks
def cw:List Tr→Nat
 | []=>0
 |k::r=>eb k+cw r
end
def jc (x:Nd):Nat:=1+cw x.2.2.2.2
theorem ux (x:Nd):eb (cP x)=jc x:=by rw [cP,eb,jc]
theorem NC (t:Tr):jc (aE t)=eb t:=by cases t;rw [eb];rfl
theorem Ec (t:Tr):eb t=1+cw (dM t):=by cases t;rw [eb];rfl
theorem ND (l:List Tr) (k:Tr):cw (l++[k])=cw l+eb k:=by
 induction l with
 |nil=>simp [cw]
 |cons a l ih=>rw [List.cons_append,cw,ih,cw];omega
theorem qf (k:Tr):cw [k]=eb k:=by simp [cw]
theorem qg: ∀(k:Nat) (has:List Bool) (lo i:Nat),has.length=256→i<256→(dH has lo k).getD i false=(has.getD i false||(decide (lo≤i)&&decide (i<lo+k)))
 |0,has,lo,i,b,hi=>by
  rw [dH];by_cases h:lo≤i
  ·rw [hJ (show ¬i<lo+0 by omega)];simp
  ·rw [hJ h];simp
 |k+1,has,lo,i,b,hi=>by
  rw [dH,qg k _ _ i (by simp [b]) hi]
  by_cases e:lo=i
  ·subst e
   simp [b,hi]
  ·have d:(has.set lo true).getD i false=has.getD i false:=by
    simp [e]
   rw [d];congr 1
   by_cases h:lo+1≤i
   ·rw [ez h,ez (show lo≤i by omega)]
    congr 1
    simp only [Nat.add_assoc,Nat.add_comm 1 k]
   ·rw [hJ h,hJ (show ¬lo≤i by omega)];rfl
def mS (has:List Bool):Prop:=has.length=256∧(has.getD 93 false=true→has.getD 92 false=true∧has.getD 94 false=true)
theorem Ed {has:List Bool} {lo k:Nat} (h:mS has) (d:lo≤93→93<lo+k→lo≤92∧94<lo+k):mS (dH has lo k):=by
 refine⟨by rw [kc];exact h.1,fun e=> ?_⟩
 rw [qg k has lo 93 h.1 (by omega)]at e
 rw [qg k has lo 92 h.1 (by omega),qg k has lo 94 h.1 (by omega)]
 rcases Bool.or_eq_true_iff.1 e with e|e
 ·obtain⟨a,b⟩:=h.2 e
  rw [a,b];exact⟨rfl,rfl⟩
 ·simp only [Bool.and_eq_true,decide_eq_true_eq]at e
  obtain⟨a,b⟩:=d e.1 e.2;rw [ez a,ez (show 92<lo+k by omega),ez (show lo≤94 by omega),ez b]
  simp
theorem NF {has:List Bool} (lo k i:Nat) (b:has.length=256) (h:has.getD i false=true):(dH has lo k).getD i false=true:=by
 by_cases hi:i<256
 ·rw [qg k has lo i b hi,h];rfl
 ·rw [List.getD_eq_getElem?_getD,List.getElem?_eq_none (by omega)]at h;cases h
theorem xY: ∀(n:Nat) (s:O) (has:List Bool) (b:Bool),s.length≤n→(∀c∈s,c.toNat≠93)→mS has→(setB s has b).2=false→
  b=false∧mS (setB s has b).1∧(∀i,has.getD i false=true→(setB s has b).1.getD i false=true)∧(∀c r,s=c::r→(setB s has b).1.getD c.toNat false=true)
 |n,[],has,b,j,g,m,f=>by
  rw [setB]at f ⊢;exact⟨f,m,fun i h=>h,fun c r h=>by cases h⟩
 |0,c::r,has,b,j,g,m,f=>by simp at j
 |n+1,lo::t,has,b,j,g,m,f=>by
  have ad:=g lo (by simp)
  have p:lo.toNat<256:=lo.toNat_lt;have h1:mS (dH has lo.toNat 1):=Ed m (fun a b=>by omega)
  have one:setB (lo::t) has b=setB t (dH has lo.toNat 1) b→b=false∧mS (setB (lo::t) has b).1∧(∀i,has.getD i false=true→(setB (lo::t) has b).1.getD i false=true)∧(∀c r,lo::t=c::r→(setB (lo::t) has b).1.getD c.toNat false=true):=fun e=>by
   rw [e]at f ⊢;obtain⟨q,a2,a3,a4⟩:=xY n t (dH has lo.toNat 1) b (by simpa using j) (fun c h=>g c (by simp [h])) h1 f
   refine⟨q,a2,fun i h=>a3 i (NF _ _ _ m.1 h),fun c r e=> ?_⟩
   obtain⟨rfl, -⟩:=List.cons.inj e;refine a3 _ ?_
   rw [qg 1 has _ _ m.1 p];simp
  match t,j,g,f,one with
  | [],j,g,f,one=>exact one (uo _ _ _ _ (by simp))
  | [d],j,g,f,one=>exact one (uo _ _ _ _ (by simp))
  |d::hi::r,j,g,f,one=>
   by_cases hd:d.toNat=45∧hi.toNat≠93
   ·rw [DP _ _ _ _ _ _ hd]at f ⊢
    have af:=g hi (by simp)
    by_cases u:hi.toNat<lo.toNat
    ·have k: ¬(setB r (dH has lo.toNat (hi.toNat+1-lo.toNat)) (b||decide (hi.toNat<lo.toNat))).2=false:=fun f=>by
      have z:mS (dH has lo.toNat (hi.toNat+1-lo.toNat)):=Ed m (fun a b=>by omega)
      have:=(xY n r _ _ (by simp at j;omega) (fun c h=>g c (by simp [h])) z f).1
      rw [ez u,Bool.or_true]at this;cases this
     exact absurd f k
    ·have z:mS (dH has lo.toNat (hi.toNat+1-lo.toNat)):=Ed m (fun a b=>by omega)
     obtain⟨q,a2,a3,a4⟩:=xY n r _ _ (by simp at j;omega) (fun c h=>g c (by simp [h])) z f
     refine⟨(Bool.or_eq_false_iff.1 q).1,a2,fun i h=>a3 i (NF _ _ _ m.1 h),fun c r e=> ?_⟩
     obtain⟨rfl, -⟩:=List.cons.inj e;refine a3 _ ?_
     rw [qg _ has _ _ m.1 p,ez (Nat.le_refl _),ez (show lo.toNat<lo.toNat+(hi.toNat+1-lo.toNat) by omega)];simp
   ·exact one (DO _ _ _ _ _ _ hd)
theorem xZ (has:List Bool): ∀(k:Nat),k≤256→ ∀c:UInt8,c∈bytesOf has k↔c.toNat<k∧has.getD c.toNat false=true
 |0,_,c=>by simp [bytesOf]
 |k+1,hk,c=>by
  rw [bytesOf,List.mem_append,xZ has k (by omega) c]
  have hu:(UInt8.ofNat k).toNat=k:=by simp;omega
  constructor
  ·rintro(⟨f,b⟩|h)
   ·exact⟨by omega,b⟩
   ·cases e:has.getD k false
    ·rw [e]at h;cases h
    ·rw [e,Y,List.mem_singleton]at h
     subst h;rw [hu];exact⟨by omega,e⟩
  ·rintro⟨f,b⟩
   by_cases e:c.toNat<k
   ·exact .inl ⟨e,b⟩
   ·have d:c.toNat=k:=by omega
    rw [d]at b;right
    rw [b,Y,List.mem_singleton,←d];simp
theorem NG (has:List Bool): ∀(k:Nat),k≤256→jF (bytesOf has k)
 |0,_=>by simp [bytesOf,jF]
 |k+1,hk=>by
  rw [bytesOf,jF,List.pairwise_append];refine⟨NG has k (by omega), ?_,fun a f b d=> ?_⟩
  ·cases has.getD k false<;>simp
  ·have:=((xZ has k (by omega) a).1 f).1
   cases e:has.getD k false
   ·rw [e]at d;cases d
   ·rw [e,Y,List.mem_singleton]at d
    subst d;simp;omega
theorem NH (has:List Bool) (k:Nat): ∀m,∃q,bytesOf has (k+m)=bytesOf has k++q
 |0=>⟨[],by simp⟩
 |m+1=>by
  obtain⟨q,h⟩:=NH has k m;exact⟨q++cond (has.getD (k+m) false) [UInt8.ofNat (k+m)] [],by rw [←Nat.add_assoc,bytesOf,h,List.append_assoc]⟩
theorem YK:mS dE:=⟨rL,fun h=>absurd h (by decide +kernel)⟩
theorem YL (s:O):(bH s).2=false→ ∀c r,(bH s).1=c::r→c.toNat≠94:=by
 cases s with
 |nil=>intro _ c r h;cases h
 |cons a l=>
  intro h c r e;by_cases k:a.toNat=94
  ·rw [bH,if_pos k]at h;cases h
  ·rw [bH,if_neg k]at e
   cases e;exact k
theorem YM (s:O) (h:(fH s).2.2=false):ki (fH s).1∧jc (fH s).1=1:=by
 unfold fH at h ⊢;simp only at h ⊢;by_cases e:((bH s).1.takeWhile aJ).length=(bH s).1.length∨(bH s).1.takeWhile aJ=[]
 ·rw [if_pos e]at h;cases h
 ·rw [if_neg e]at h ⊢
  refine⟨⟨.inr (.inl ⟨rfl,rfl, ?_,rfl⟩),fun k hk=>by cases hk⟩,rfl⟩
  obtain⟨a1,a2,a3,a4⟩:=xY _ ((bH s).1.takeWhile aJ) dE false (Nat.le_refl _) (fun c d=>DR _ c d) YK h
  obtain⟨c,r,b⟩: ∃c r,(bH s).1.takeWhile aJ=c::r:=by
   cases k:(bH s).1.takeWhile aJ with
   |nil=>exact absurd (.inr k) e
   |cons c r=>exact⟨c,r,rfl⟩
  have hm:=(xZ _ 256 (by omega) c).2 ⟨c.toNat_lt,a4 c r b⟩
  refine⟨fun k=> ?_,NG _ 256 (by omega),fun f=> ?_, ?_⟩
  ·dsimp only at k
   rw [k]at hm;cases hm
  ·have j:=((xZ _ 256 (by omega) (93:UInt8)).1 f).2
   obtain⟨t,u⟩:=a2.2 j;obtain⟨q,z⟩:=NH (setB ((bH s).1.takeWhile aJ) dE false).1 95 161;refine⟨bytesOf (setB ((bH s).1.takeWhile aJ) dE false).1 92,q, ?_⟩
   rw [z,bytesOf,bytesOf,bytesOf,u,t,show((setB ((bH s).1.takeWhile aJ) dE false).1.getD 93 false)=true from j];simp
  ·by_cases m:(bH s).2=true
   ·exact .inl m
   ·right
    intro k;dsimp only at k
    rw [k,List.mem_singleton]at hm;have d:=YL s (by simpa using m) c
    have: ∃g,(bH s).1=c::g:=by
     cases p:(bH s).1 with
     |nil=>rw [p]at b;cases b
     |cons a l=>
      rw [p,List.takeWhile_cons]at b;split at b
      ·cases b;exact⟨l,rfl⟩
      ·cases b
    obtain⟨g,i⟩:=this;exact d g i (by rw [hm];rfl)
theorem ya {o:Int} (h:o=2∨o=4∨o=5∨o=11):ki (leaf o 0):=⟨.inr (.inr (.inr (.inr ⟨h,rfl,rfl,rfl,rfl⟩))),fun k hk=>by cases hk⟩
theorem NI (d:UInt8):ki (leaf 1 d.toNat):=⟨.inl ⟨rfl,by show(0:Int)≤(d.toNat:Int);omega,by have:=d.toNat_lt;show(d.toNat:Int)≤255;omega,rfl,rfl,rfl⟩,fun k hk=>by cases hk⟩
theorem YN (c:UInt8) (r:O) (h:(kd c r).2.2=false):ki (kd c r).1∧jc (kd c r).1=1:=by
 unfold kd at h ⊢;split
 ·exact⟨ya (by simp),rfl⟩
 split
 ·exact⟨ya (by simp),rfl⟩
 split
 ·exact⟨ya (by simp),rfl⟩
 split
 ·rename_i b f g i
  rw [if_neg b,if_neg f,if_neg g,if_pos i]at h;exact YM r h
 split
 ·rename_i b f g i j
  rw [if_neg b,if_neg f,if_neg g,if_neg i,if_pos j]at h;cases r with
  |nil=>cases h
  |cons d r=>exact⟨NI d,rfl⟩
 split
 ·rename_i b f g i j k
  rw [if_neg b,if_neg f,if_neg g,if_neg i,if_neg j,if_pos k]at h;cases h
 ·exact⟨NI c,rfl⟩
theorem YO (x:Nd×O×Bool) (h:(gY x).2.2=false):x.2.2=false∧(gY x).2.1.length+1≤x.2.1.length:=by
 unfold gY at h ⊢;cases e:eP x.2.1 x.2.2 with
 |none=>rw [e]at h;cases h
 |some d=>
  rw [e]at h;obtain⟨k1,k2⟩:=fJ e;simp only at h ⊢;by_cases hd:d.toNat=41
  ·rw [if_pos hd]
   refine⟨k1, ?_⟩
   rw [k2];simp
  ·rw [if_neg hd]at h;cases h
theorem NJ {ks:List Tr} (d:ks≠ []) (h: ∀k∈ks,fL k):ki (gX ks)∧jc (gX ks)≤cw ks+1:=by
 match ks,d,h with
 | [k],_,h=>exact⟨NB (h k (by simp)),by rw [gX,NC,qf];omega⟩
 |a::b::r,_,h=>exact⟨⟨.inr (.inr (.inl ⟨.inr rfl,rfl,rfl,rfl,by simp [gX]⟩)),h⟩,by simp only [gX,jc];omega⟩
theorem YP {ks:List Tr} (h: ∀k∈ks,fL k):ki (gq ks)∧jc (gq ks)≤cw ks+1:=by
 match ks,h with
 | [],_=>exact⟨ya (o:=11) (by simp),by simp [gq,jc,cw]⟩
 | [k],h=>exact⟨NB (h k (by simp)),by rw [gq,NC,qf];omega⟩
 |a::b::r,h=>exact⟨⟨.inr (.inr (.inl ⟨.inl rfl,rfl,rfl,rfl,by simp [gq]⟩)),h⟩,by simp only [gq,jc];omega⟩
def YQ:Md→Prop
 |.fI ks=>ks≠ []∧ ∀k∈ks,fL k
 |.ff ks=> ∀k∈ks,fL k
 |.iA t=>ki t
 |_=>True
def hU:Md→Nat
 |.pat=>10
 |.fI ks=>cw ks+9
 |.part=>9
 |.ff ks=>cw ks+9
 |.piece=>5
 |.iA t=>jc t+8
 |.atom=>5
theorem NK {ks:List Tr} {x:Nd} (h: ∀k∈ks,fL k) (b:ki x): ∀k∈ks++[cP x],fL k:=fun k hk=>by
 rcases List.mem_append.1 hk with hk|hk
 ·exact h k hk
 ·rw [List.mem_singleton.1 hk];exact xX b
theorem YR {c:UInt8} (h:gI c≠0):gI c=8∨gI c=9∨gI c=10:=by
 unfold gI at h ⊢;repeat' split
 all_goals simp_all
theorem YS: ∀f md s b r,iP f md s b=some r→s.length≤60→lL md s b→ke md s→YQ md→r.2.2=false→ki r.1∧jc r.1+4*r.2.1.length+8≤4*s.length+hU md:=by
 intro f;induction f with
 |zero=>intro md s b r h;simp [iP]at h
 |succ f ih=>
  intro md s b r h hs m u hR d;cases md with
  |pat=>
   simp only [iP,Option.bind_eq_some_iff]at h;obtain⟨x,i,j⟩:=h;obtain⟨a1,a2,a3⟩:=eJ _ _ _ _ _ i hs trivial trivial;simp only [dR]at a2;have g:ke (.fI [cP x.1]) x.2.1:=⟨by simp;omega,by simpa using eW a1⟩
   have c3:=(eJ _ _ _ _ _ j (by omega) trivial g).2.2
   have hx:x.2.2=false:=by
    cases e:x.2.2
    ·rfl
    ·rw [c3 e]at d;cases d
   obtain⟨p1,p2⟩:=ih _ _ _ _ i hs trivial trivial trivial hx;obtain⟨q1,q2⟩:=ih _ _ _ _ j (by omega) trivial g ⟨by simp,by simpa using xX p1⟩ d
   simp only [hU,qf,ux]at p2 q2 ⊢;exact⟨q1,by omega⟩
  |fI ks=>
   simp only [iP]at h;split at h
   ·cases h
    obtain⟨p,q⟩:=NJ hR.1 hR.2;exact⟨p,by simp only [hU];omega⟩
   ·rename_i c hn
    obtain⟨rfl,e⟩:=fJ hn;have hl:s.length=s.tail.length+1:=by rw [e];simp
    split at h
    ·simp only [Option.bind_eq_some_iff]at h
     obtain⟨x,i,j⟩:=h;obtain⟨a1,a2,a3⟩:=eJ _ _ _ _ _ i (by omega) trivial trivial
     simp only [dR]at a2;have g:ke (.fI (ks++[cP x.1])) x.2.1:=⟨by have:=u.1;simp;omega,by
      intro k hk;rcases List.mem_append.1 hk with hk|hk
      ·exact u.2 k hk
      ·simp at hk;subst hk;exact eW a1⟩
     have c3:=(eJ _ _ _ _ _ j (by omega) trivial g).2.2
     have hx:x.2.2=false:=by
      cases e:x.2.2
      ·rfl
      ·rw [c3 e]at d;cases d
     obtain⟨p1,p2⟩:=ih _ _ _ _ i (by omega) trivial trivial trivial hx
     obtain⟨q1,q2⟩:=ih _ _ _ _ j (by omega) trivial g ⟨by simp,NK hR.2 p1⟩ d
     simp only [hU,ND,ux]at p2 q2 ⊢;exact⟨q1,by omega⟩
    ·cases h
     obtain⟨p,q⟩:=NJ hR.1 hR.2;exact⟨p,by simp only [hU];omega⟩
  |part=>
   simp only [iP]at h;obtain⟨p,q⟩:=ih (.ff []) _ _ _ h hs trivial ⟨by simp;omega,by simp⟩ (fun k hk=>by cases hk) d
   exact⟨p,by simp only [hU,cw]at q ⊢;omega⟩
  |ff ks=>
   simp only [iP]at h;have stop:ki (gq ks)∧jc (gq ks)+4*s.length+8≤4*s.length+hU (.ff ks):=by
    obtain⟨p,q⟩:=YP (ks:=ks) hR;exact⟨p,by simp only [hU];omega⟩
   split at h
   ·cases h;exact stop
   ·rename_i c hn
    obtain⟨rfl,e⟩:=fJ hn;split at h
    ·cases h;exact stop
    ·simp only [Option.bind_eq_some_iff]at h
     obtain⟨x,i,j⟩:=h;have z:lL .piece s false:=⟨by rw [e];simp,rfl⟩
     obtain⟨a1,a2,a3⟩:=eJ _ _ _ _ _ i hs z trivial;simp only [dR]at a2;have g:ke (.ff (ks++[cP x.1])) x.2.1:=⟨by have:=u.1;simp;omega,by
      intro k hk;rcases List.mem_append.1 hk with hk|hk
      ·exact u.2 k hk
      ·simp at hk;subst hk;exact eW a1⟩
     have c3:=(eJ _ _ _ _ _ j (by omega) trivial g).2.2
     have hx:x.2.2=false:=by
      cases e:x.2.2
      ·rfl
      ·rw [c3 e]at d;cases d
     obtain⟨p1,p2⟩:=ih _ _ _ _ i hs z trivial trivial hx;obtain⟨q1,q2⟩:=ih _ _ _ _ j (by omega) trivial g (NK hR p1) d
     simp only [hU,ND,ux]at p2 q2 ⊢;exact⟨q1,by omega⟩
  |piece=>
   simp only [iP,Option.bind_eq_some_iff]at h;obtain⟨x,i,j⟩:=h;obtain⟨a1,a2,a3⟩:=eJ _ _ _ _ _ i hs m trivial;simp only [dR]at a2;have c3:=(eJ _ _ _ _ _ j (by omega) trivial a1).2.2
   have hx:x.2.2=false:=by
    cases e:x.2.2
    ·rfl
    ·rw [c3 e]at d;cases d
   obtain⟨p1,p2⟩:=ih _ _ _ _ i hs m trivial trivial hx;obtain⟨q1,q2⟩:=ih _ _ _ _ j (by omega) trivial a1 p1 d
   simp only [hU]at p2 q2 ⊢;exact⟨q1,by omega⟩
  |iA t=>
   simp only [iP]at h;split at h
   ·cases h;exact⟨hR,by simp only [hU];omega⟩
   ·rename_i c hn
    obtain⟨rfl,e⟩:=fJ hn;have hl:s.length=s.tail.length+1:=by rw [e];simp
    split at h
    ·cases h;exact⟨hR,by simp only [hU];omega⟩
    ·rename_i al
     obtain⟨q1,q2⟩:=ih _ _ _ _ h (by omega) trivial ⟨by simp,by simpa using eW u⟩ ⟨.inr (.inr (.inr (.inl ⟨YR al,rfl,rfl,rfl,rfl⟩))),by simpa using xX hR⟩ d
     simp only [hU,jc,qf,ux]at q2 ⊢;exact⟨q1,by omega⟩
  |atom=>
   obtain⟨ao,rfl⟩:=m;cases s with
   |nil=>exact absurd rfl ao
   |cons c rr=>
    simp only [List.length_cons]at hs;simp only [iP]at h;split at h
    ·simp only [Option.bind_eq_some_iff]at h
     obtain⟨x,i,j⟩:=h;cases j;obtain⟨e1,e2⟩:=YO x d;obtain⟨p1,p2⟩:=ih _ _ _ _ i (by omega) trivial trivial trivial e1
     rw [(Nu x).1];simp only [hU,List.length_cons]at p2 ⊢;exact⟨p1,by omega⟩
    ·cases h
     obtain⟨e1,e2⟩:=YN c rr d;have e3:=(Ns c rr).2;rw [e2];simp only [hU,List.length_cons];exact⟨e1,by omega⟩
end Go.Ev
namespace Go.Ev
open Go
abbrev Pl:=Int×(Int×O×Bool×Int×Int)
def ef (p:Pl) (k:Int) (b e:Bool):List Int:=
 if p.1=6 then [p.2.2.2.2.1]else if p.1=7 then [p.2.2.2.2.1,p.2.2.2.2.2]else if p.1=4 then cond b [k+1] []else if p.1=5 then cond e [k+1] []else []
theorem YT (p:Pl) (k:Int) (b e:Bool):(ef p k b e).length≤2:=by
 unfold ef;repeat' split
 ·simp
 ·simp
 ·cases b<;>simp
 ·cases e<;>simp
 ·simp
inductive kK (l:List Pl) (at0:List Int) (b e:Bool):Nat→Prop
 |base {i:Nat} (h:(i:Int)∈at0) (hi:i<l.length):kK l at0 b e i
 |step {k j:Nat} (hk:kK l at0 b e k) (h:k<l.length) (hj:(j:Int)∈ef l[k] k b e) (bZ:j<l.length):kK l at0 b e j
noncomputable def fM (l:List Pl) (at0:List Int) (b e:Bool):List Int:=((List.range l.length).filter fun i=>bo (kK l at0 b e i)).map Int.ofNat
theorem NL {l:List Pl} {at0:List Int} {b e:Bool} {x:Int}:x∈fM l at0 b e↔ ∃i:Nat,x=(i:Int)∧i<l.length∧kK l at0 b e i:=by
 unfold fM;simp only [List.mem_map,List.mem_filter,List.mem_range,rH];constructor
 ·rintro⟨i,⟨d,f⟩,rfl⟩;exact⟨i,rfl,d,f⟩
 ·rintro⟨i,rfl,d,f⟩;exact⟨i,⟨d,f⟩,rfl⟩
theorem Ee (l:List Pl) (at0:List Int) (b e:Bool):(fM l at0 b e).Pairwise fun x y=>x<y:=by
 unfold fM;rw [List.pairwise_map];refine List.Pairwise.filter _ (List.pairwise_lt_range.imp fun h=> ?_)
 exact Int.ofNat_lt.2 h
theorem YU (l:List Pl) (at0:List Int) (b e:Bool):(fM l at0 b e).length≤l.length:=by
 unfold fM;rw [List.length_map];have:=List.length_filter_le (fun i=>bo (kK l at0 b e i)) (List.range l.length)
 rwa [List.length_range]at this
theorem YV {l:List Pl} {at0:List Int} {b e:Bool} {out:List Int} (g:out.Nodup) (hm: ∀x,x∈out↔x∈fM l at0 b e):jB out=fM l at0 b e:=by
 unfold jB;have hp:(out.mergeSort fun a b=>decide (a≤b)).Perm (fM l at0 b e):=(List.mergeSort_perm _ _).trans ((List.perm_ext_iff_of_nodup g ((Ee l at0 b e).imp fun h=>by omega)).2 hm)
 refine List.Perm.eq_of_pairwise (le:=fun x y:Int=>x≤y) (fun a b _ _ d f=>Int.le_antisymm d f) ?_ ((Ee l at0 b e).imp fun h=>by omega) hp
 refine(List.pairwise_mergeSort (le:=fun a b:Int=>decide (a≤b)) (fun a b c d f=> ?_) (fun a b=> ?_) out).imp fun h=> ?_
 ·simp only [decide_eq_true_eq]at d f ⊢;omega
 ·simp only [Bool.or_eq_true,decide_eq_true_eq];omega
 ·simpa using h
theorem NM {l:List Pl} {at0:List Int} {b e:Bool} {M:Nat→Prop} (d: ∀i,i<l.length→M i→kK l at0 b e i) (f: ∀i:Nat,(i:Int)∈at0→i<l.length→M i)
  (g: ∀k,(h:k<l.length)→M k→ ∀j:Nat,(j:Int)∈ef l[k] k b e→j<l.length→M j) {i:Nat} (hi:i<l.length):M i↔kK l at0 b e i:=by
 refine⟨d i hi,fun h=> ?_⟩
 clear hi;induction h with
 |base h hi=>exact f _ h hi
 |step hk h hj bZ ih=>exact g _ h ih _ hj bZ
end Go.Ev
namespace Go.Ev
open Go
theorem NN: ∀s t u:O,Op.bytesLess s t=true→Op.bytesLess t u=true→Op.bytesLess s u=true
 |_,t,[],_,h=>by
  rw [show Op.bytesLess t []=false by cases t<;>rfl]at h
  cases h
 | [],_,c::u,_,_=>by simp [Op.bytesLess]
 |a::s,[],c::u,h,_=>by simp [Op.bytesLess]at h
 |a::s,b::t,c::u,h,k=>by
  rw [Op.bytesLess]at h k ⊢;simp only [Bool.or_eq_true,Bool.and_eq_true,decide_eq_true_eq,beq_iff_eq,UInt8.lt_iff_toNat_lt]at h k ⊢;rcases h with h|⟨rfl,h⟩<;>rcases k with k|⟨rfl,k⟩
  ·left;omega
  ·left;exact h
  ·left;exact k
  ·right;exact⟨rfl,NN s t u h k⟩
theorem NO: ∀s t:O,Op.bytesLess s t=true∨s=t∨Op.bytesLess t s=true
 | [],[]=>.inr (.inl rfl)
 | [],b::t=>.inl (by simp [Op.bytesLess])
 |a::s,[]=>.inr (.inr (by simp [Op.bytesLess]))
 |a::s,b::t=>by
  rw [Op.bytesLess,Op.bytesLess];simp only [Bool.or_eq_true,Bool.and_eq_true,decide_eq_true_eq,beq_iff_eq,UInt8.lt_iff_toNat_lt,List.cons.injEq];by_cases e:a=b
  ·subst e
   rcases NO s t with h|rfl|h
   ·exact .inl (.inr ⟨rfl,h⟩)
   ·exact .inr (.inl ⟨rfl,rfl⟩)
   ·exact .inr (.inr (.inr ⟨rfl,h⟩))
  ·have:a.toNat≠b.toNat:=fun k=>e (UInt8.toNat_inj.1 k)
   by_cases l:a.toNat<b.toNat
   ·exact .inl (.inl l)
   ·exact .inr (.inr (.inl (by omega)))
theorem Ef {a:Int} {s:O} {b:Int} {t:O} {c:Int} {u:O} (h:dX a s b t) (k:dX b t c u):dX a s c u:=by
 rcases h with h|⟨f,d⟩<;>rcases k with k|⟨k1,k2⟩
 ·exact .inl (by omega)
 ·exact .inl (by omega)
 ·exact .inl (by omega)
 ·exact .inr ⟨by omega,NN s t u d k2⟩
theorem YW (a:Int) (s:O) (b:Int) (t:O):dX a s b t∨(a=b∧s=t)∨dX b t a s:=by
 by_cases h:a<b
 ·exact .inl (.inl h)
 by_cases k:b<a
 ·exact .inr (.inr (.inl k))
 rcases NO s t with q|q|q
 ·exact .inl (.inr ⟨by omega,q⟩)
 ·exact .inr (.inl ⟨by omega,q⟩)
 ·exact .inr (.inr (.inr ⟨by omega,q⟩))
def CW (cells:Int) (c:VC):Prop:=0≤c.1∧c.1<cells∧c.2.1.length≤300∧bP c.2.2
def CL (a b:VC):Prop:=dX a.1 a.2.1 b.1 b.2.1
theorem NP {α:Type} {R:α→α→Prop} (g: ∀a b c,R a b→R b c→R a c): ∀ {l:List α},(∀i (h:i<l.length),(k:0<i)→R (l[i-1]'(by omega)) l[i])→l.Pairwise R
 | [],_=>List.Pairwise.nil
 | [a],_=>List.pairwise_singleton R a
 |a::b::l,h=>by
  have ih:(b::l).Pairwise R:=NP g fun i hi k=>by
   have:=h (i+1) (by simp at hi ⊢;omega) (by omega)
   obtain⟨j,rfl⟩: ∃j,i=j+1:=⟨i-1,by omega⟩
   simpa using this
  have d:R a b:=h 1 (by simp) (by omega)
  rw [List.pairwise_cons];refine⟨fun c f=> ?_,ih⟩
  rcases List.mem_cons.1 f with rfl|f
  ·exact d
  ·exact g _ _ _ d ((List.pairwise_cons.1 ih).1 c f)
theorem NQ {cs:List VC} {cells:Int}:(∀i,i<cs.length→ot cs cells i)↔(∀c∈cs,CW cells c)∧cs.Pairwise CL:=by
 constructor
 ·intro h
  refine⟨fun c g=> ?_,NP (R:=CL) (fun a b c h k=>Ef h k) fun i hi f=>(h i hi hi).2.2.2.2 f⟩
  obtain⟨j,hj,rfl⟩:=List.mem_iff_getElem.1 g;obtain⟨a,b,c,d, -⟩:=h j hj hj;exact⟨a,b,c,d⟩
 ·rintro⟨m,p⟩ i hi q
  obtain⟨a,b,c,d⟩:=m _ (List.getElem_mem hi);exact⟨a,b,c,d,fun f=>List.pairwise_iff_getElem.1 p (i-1) i (by omega) hi (by omega)⟩
end Go.Ev
namespace Go.Ev
theorem NR {α b:Type} {P:b→Prop} {f:b→α→b}: ∀(l:List α) (s:b),P s→(∀s,∀x∈l,P s→P (f s x))→P (l.foldl f s)
 | [],_,h,_=>h
 |x::l,s,h,k=>NR l (f s x) (k s x (by simp) h) fun s y hy=>k s y (by simp [hy])
theorem NS {α d t:Type} {l:List α} (hl:l.length≤1048576) (f:d→α→d) (P:d→Prop) {b:d} (u:P b) (z: ∀s,∀x∈l,P s→P (f s x)) {r:d→t} {L:Nat→Nat→Int→d→Option t}
  (k: ∀s,P s→ ∀(i:Nat) (hi:i<l.length),W fun n=> ∀m,L n (m+1) (i:Int) s=L n m (wrap .i64 ((i:Int)+(1:Int))) (f s l[i]))
  (he: ∀n m s,L n (m+1) (l.length:Int) s=some (r s)):W fun n=>L n n 0 b=some (r (l.foldl f b)):=by
 have q: ∀i,P ((l.take i).foldl f b):=fun i=>NR (l.take i) b u fun s x k=>z s x (List.mem_of_mem_take k)
 have g:W fun n=> ∀i∈List.range l.length,∀(hi:i<l.length) m,L n (m+1) (i:Int) ((l.take i).foldl f b)=L n m (wrap .i64 ((i:Int)+(1:Int))) (f ((l.take i).foldl f b) l[i]):=
  W.all (p:=fun i n=> ∀(hi:i<l.length) m,L n (m+1) (i:Int) ((l.take i).foldl f b)=L n m (wrap .i64 ((i:Int)+(1:Int))) (f ((l.take i).foldl f b) l[i])) (List.range l.length) fun i hi=>(k _ (q i) i (List.mem_range.1 hi)).mono fun n h _ m=>h m
 have:=jY (len:=l.length) (L:=fun n m i s=>L n m (i:Int) s) (fun i s=>s=(l.take i).foldl f b) (fun x=>x=r (l.foldl f b)) ?_ ?_
 ·exact this.mono fun n h=>by
   obtain⟨x,h1,h2⟩:=h b rfl;rw [←h2];exact h1
 ·refine g.mono fun n h m i s hi j=>.inr ⟨f s l[i], ?_, ?_⟩
  ·subst j
   rw [←dx hi (by omega)]
   exact h i (List.mem_range.2 hi) hi m
  ·subst j
   rw [List.take_succ_eq_append_getElem hi,List.foldl_append];rfl
 ·exact W.of fun n m s j=>⟨_,he n m s,by rw [j,List.take_length]⟩
end Go.Ev
namespace Go.Ev
open Go
end Go.Ev
namespace Go.Ev
open Go
def oz (P:Program):Nat→List FuncId→Nat→List FuncId→List FuncId
 |0,_,_,seen=>seen.reverse
 |_+1,[],_,seen=>seen.reverse
 |n+1,f::todo,m,seen=>cond (Nat.testBit m f) (oz P n todo m seen)
  (match m |||1 <<<f with
   |0=>oz P n ((P.funcs[f]?).elim [] P.leadsTo++todo) 0 (f::seen)
   |k+1=>oz P n ((P.funcs[f]?).elim [] P.leadsTo++todo) (k+1) (f::seen))
theorem yb {P:Program}: ∀(n:Nat) (todo:List FuncId) (m:Nat) (seen:List FuncId),(∀g:Nat,List.contains seen g=Nat.testBit m g)→P.closureVia n todo seen=oz P n todo m seen
 |0,_,_,_,_=>by simp [Program.closureVia,oz]
 |n+1,[],_,_,_=>by simp [Program.closureVia,oz]
 |n+1,f::todo,m,seen,h=>by
  simp only [Program.closureVia,oz];rw [h f];cases d:Nat.testBit m f with
  |true=>simp only [if_true,Y];exact yb n todo m seen h
  |false=>
   simp only [Bool.false_eq_true,if_false,da];have k: ∀g:Nat,List.contains (f::seen) g=Nat.testBit (m |||1 <<<f) g:=by
    intro g;rw [List.contains_cons,h g,Nat.testBit_or,Nat.one_shiftLeft,Nat.testBit_two_pow];by_cases e:g=f
    ·subst e;simp
    ·have b: ¬f=g:=fun x=>e x.symm
     simp [e,b]
   generalize m |||1 <<<f=q at k
   cases q with
   |zero=>exact yb n _ 0 _ k
   |succ q=>exact yb n _ (q+1) _ k
def mT (P:Program) (f:FuncId):List FuncId:=oz P (1+(P.funcs.toList.map fun g=>(P.leadsTo g).length+1).sum) [f] 0 []
theorem rP (P:Program) (f:FuncId):P.closure f=mT P f:=yb _ _ _ _ fun g=>by simp
def uy (P:Program) (f:FuncId):Bool:=(mT P f).any fun g=>(P.funcs[g]?).any fun fn=>match fn.body with|some c=>c.unfollowed|none=>entryCalls fn
theorem yc (P:Program) (f:FuncId):P.unfollowed f=uy P f:=by
 unfold Program.unfollowed uy;rw [rP];rfl
def Eg (P:Program) (f:FuncId):Bool:=((mT P f).any fun g=>(P.funcs[g]?).any Func.goes)||(uy P f&&P.funcs.any Func.goes)
theorem YX (P:Program) (f:FuncId):P.goes f=Eg P f:=by
 unfold Program.goes Eg;rw [rP,yc]
def Eh (P:Program) (f:FuncId):Bool:=uy P f||(mT P f).any fun g=>((P.funcs[g]?).elim [] P.leadsTo).any fun h=>(mT P h).contains g
theorem YY (P:Program) (f:FuncId):P.recurses f=Eh P f:=by
 unfold Program.recurses Eh;rw [yc,rP];simp only [rP]
def Ei (P:Program) (f:FuncId):List String:=(mT P f).filterMap fun g=>(P.funcs[g]?).bind fun fn=>if fn.ours||fn.body.isNone||fn.name== "runtime.NumGoroutine" then some fn.name else none
theorem YZ (P:Program) (f:FuncId):P.inPlace f=Ei P f:=by
 unfold Program.inPlace Ei;rw [rP]
def Ej (P:Program) (f:FuncId):List String:=
 ((((mT P f).flatMap fun g=>((P.funcs[g]?).bind (·.body)).elim [] Code.globalsNamed).eraseDups).filterMap (fun g=>(P.globals[g]?).map (·.name))++
  (mT P f).filterMap fun g=>(P.funcs[g]?).bind fun fn=>if fn.body.isNone then entryReads.lookup fn.name else none).eraseDups
theorem Za (P:Program) (f:FuncId):P.varsNamed f=Ej P f:=by
 unfold Program.varsNamed Ej;rw [rP]
end Go.Ev
