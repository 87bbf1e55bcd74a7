/- Parts of the walk. -/
import Derived.Test.YtkmcihhndgdhpaaGreatWA7
import Derived.OneCell
import Derived.Shelf.SlMaps.Clone
import Derived.Lib.SliceRun
import Derived.Laws.CopyOwn
import Derived.BigRegion
import Derived.Laws.IdiomRangeMap
import Derived.Lib.IfaceEq
import Derived.Stop.Asserts
import Derived.Deep.CutBlock
set_option maxRecDepth 100000
set_option maxHeartbeats 4000000
set_option linter.unusedSimpArgs false
set_option linter.unusedVariables false
open Go.ChangeMaps Go.Maps Go.RowKit Go.Proofs.Tryz
namespace Go.Proofs.YtkmcihhndgdhpaaGreat
variable {b k eb n j lg lc h:Nat}{w w2 w':World}{c:List (Int×Int)}{x:Int}
theorem mRc {p:Prop}(h:p:=by
  clear h3 ey ez;go_wp2_with fail;refine HT.o.mono ?_;rintro x w3 ⟨rfl,rfl⟩;go_wp2;go_meet;exact⟨_,rfl,HR.o,S2.o⟩):p:=h
theorem mUc {p:Prop}(h:p:=by
  go_wp2;go_roundg (M.qd.length-(i+1))
  case measure=>have:=HG.o;omega
  case rel=>rw[zdj (yq HT6.o)];exact REL.o):p:=h
inductive Vl where
 | num (n:Int)
 | obj (n:Int)
 | thr (n:Int)
 deriving DecidableEq,Repr
structure Fr where
 at_:Nat
 qc:List Vl
 back:Int
structure Th where
 qb:List Fr
 ended:Bool
 clock:List (Int×Int)
structure Tc where
 write:Bool
 tick:Int
 deriving DecidableEq
abbrev Sp:=Int×Int
structure Mc where
 qd:List Th
 held:List (Sp×Vl)
 qt:Nat
 owner:List (Int×Int)
 qq:List (Int×List (Int×Int))
 qp:List (Sp×List (Sp×Tc))
 races:List (Sp×Int)
 steps:Nat
structure Evn where
 qw:Int:=0
 kind:Int:=0
 place:Int:=0
 obj:Int:=-1
 field:Int:=0
 val:Vl:=.num 0
 ended:Bool:=false
def zJ {κ : Type} [DecidableEq κ] (m:List (κ × Int)) (x:κ):Int:=(mget m x).getD 0
def valM (f:Fr)(a:Ar):Vl:=if a.c then .num a.n else f.qc.getD a.n (.num 0)
def zdh (b:Bool):Vl:=if b then .num 1 else .num 0
def binM (b:Nat)(v w:Vl):Option Vl :=
 if b=0 then some v
 else match v,w with
  | .num x,.num y=>some (if b=1 then .num (IntKind.i64.wrap (x+y))else if b=2 then .num (IntKind.i64.wrap (x-y))else if b=3 then zdh (decide (x<y))else zdh (decide (x=y)))
  | _,_=>if b=4 then some (zdh (decide (v=w)))else none
def setTh (M:Mc)(t:Nat)(th:Th):Mc:={ M with qd:=M.qd.set t th }
def zh (th:Th)(f:Fr):Th:={ th with qb:=th.qb.set (th.qb.length-1) f }
def zQ (M:Mc)(t:Nat)(th:Th)(f:Fr):Mc:=setTh M t (zh th f)
def xc (f:Fr)(x:Int)(v:Vl):Fr:={ f with qc:=f.qc.set x.toNat v }
def zd9 (c d:List (Int×Int)):List (Int×Int):=d.foldl (fun c p=>mput c p.1 (max (zJ c p.1) (zJ d p.1))) c
def zc0 (a b:Int):Sp:=(min a b,max a b)
def zb8 (c:List (Int×Int))(t:Int)(write:Bool)(p:Sp×Tc):Bool:=decide (p.1.1≠t)&&(p.2.write||write)&&decide (zJ c p.1.1<p.2.tick)
def zgv (n:Int)(r:List (Sp×Int))(q:Sp):List (Sp×Int):=if zJ r q=0 then mput r q n else r
def zl6 (c:List (Int×Int))(t place:Int)(write:Bool)(n:Int)(l:List (Sp×Tc))(r:List (Sp×Int)):List (Sp×Int) :=
 l.foldl (fun r p=>if zb8 c t write (p.1,(mget l p.1).getD p.2)then zgv n r (zc0 p.1.2 place)else r) r
def ze0 (M:Mc)(t:Int)(c:List (Int×Int))(s:Sp)(place:Int)(write:Bool):Mc :=
 let l:=(mget M.qp s).getD []
 { M with races:=zl6 c t place write M.steps l M.races,qp:=mput M.qp s (mput l (t,place) ⟨write,zJ c t⟩) }
def zp (n:Nat):List Vl:=List.replicate n (.num 0)
def zdr (P:Pr)(f:Fr)(x:In)(back:Int):Option Fr :=
 match P.fs[x.call]? with
 | none=>none
 | some g=>some { at_:=g.from_,qc:=(x.args.map (valM f))++(zp g.locals).drop x.args.length,back:=back }
def zah (P:Pr):Nat->Nat->Nat
 | 0,k=>k
 | n+1,k=>match P.code[k]? with
  | some i=>if i.op=20 then zah P n i.to else k
  | none=>k
def zbo (P:Pr)(M:Mc)(t:Nat):Mc :=
 match M.qd[t]? with
 | none=>M
 | some th=>match th.qb.getLast? with
  | none=>M
  | some f=>zQ M t th { f with at_:=zah P P.code.length f.at_ }
def doM (P:Pr)(M:Mc)(t:Nat)(th:Th)(f:Fr)(x:In)(e:Evn):Option (Mc×Evn) :=
 if x.op=1 then
  match binM x.bin (valM f x.y) (valM f x.z)with
  | none=>none
  | some v=>some (zQ M t th (xc f x.x v),{ e with val:=v })
 else if x.op=13\/x.op=14 then
  let v:=valM f x.y
  some (if v=.num 0 then zQ M t th { f with at_:=x.to } else M,{ e with val:=v })
 else if x.op=2\/x.op=3\/x.op=4\/x.op=5 then
  match(if x.op=4 then valM f x.y else if x.op=5 then f.qc.getD x.x.toNat (.num 0)else .obj (-1))with
  | .obj o =>
   let s:Sp:=(o,x.var)
   if x.op=3\/x.op=5 then
    let v:=valM f x.y
    some (ze0 { M with held:=mput M.held s v } t th.clock s x.place true,{ e with obj:=o,field:=x.var,val:=v })
   else
    let v:=(mget M.held s).getD (.num 0)
    some (ze0 (zQ M t th (xc f x.x v)) t th.clock s x.place false,{ e with obj:=o,field:=x.var,val:=v })
  | _=>none
 else if x.op=6 then
  if M.qt=8 then none
  else some ({ zQ M t th (xc f x.x (.obj M.qt))with qt:=M.qt+1 },{ e with obj:=M.qt,val:=.obj M.qt })
 else if x.op=9 then
  some (setTh { M with owner:=mput M.owner x.var t } t { th with clock:=zd9 th.clock ((mget M.qq x.var).getD []) },{ e with field:=x.var })
 else if x.op=10 then
  if mget M.owner x.var=some (t:Int)then
   some (setTh { M with owner:=mdel M.owner x.var,qq:=mput M.qq x.var th.clock } t { th with clock:=mput th.clock t (zJ th.clock t+1) },{ e with field:=x.var })
  else none
 else if x.op=8 then
  match f.qc.getD x.y.n (.num 0)with
  | .thr v=>match M.qd[v.toNat]? with
   | some u=>some (setTh M t { th with clock:=zd9 th.clock u.clock },{ e with obj:=v })
   | none=>none
  | _=>none
 else if x.op=7 then
  if M.qd.length=6 then none
  else match zdr P f x (-1)with
   | none=>none
   | some g =>
    let n:=M.qd.length
    let th1:=if 0<=x.x then zh th (xc f x.x (.thr n))else th
    let M1:=setTh M t { th1 with clock:=mput th.clock t (zJ th.clock t+1) }
    some ({ M1 with qd:=M1.qd++[{ qb:=[{ g with at_:=zah P P.code.length g.at_ }],ended:=false,clock:=mput th.clock n 1 }] },{ e with obj:=n })
 else if x.op=11 then
  if th.qb.length=6 then none
  else match zdr P f x x.x with
   | none=>none
   | some g=>some (setTh M t { th with qb:=th.qb++[g] },e)
 else
  let v:=valM f x.y
  let fs:=th.qb.dropLast
  match fs.getLast? with
  | none=>some (setTh M t { th with qb:=[],ended:=true },{ e with val:=v,ended:=true })
  | some g=>some (setTh M t { th with qb:=if 0<=f.back then fs.set (fs.length-1) (xc g f.back v)else fs },{ e with val:=v })
def zeg (P:Pr)(M:Mc)(t:Nat):Mc×Evn :=
 match M.qd[t]? with
 | none=>(M,{})
 | some th=>match th.qb.getLast? with
  | none=>(M,{})
  | some f0=>match P.code[f0.at_]? with
   | none=>(M,{})
   | some x =>
    let f:Fr:={ f0 with at_:=f0.at_+1 }
    let th1:=zh th f
    match doM P (setTh M t th1) t th1 f x { kind:=x.op,place:=x.place } with
    | none=>(setTh M t { th with qb:=[],ended:=true },{ kind:=15,place:=x.place,ended:=true })
    | some (M2,e)=>(zbo P M2 t,e)
def mayM (P:Pr)(M:Mc)(t:Nat):Bool :=
 match M.qd[t]? with
 | none=>false
 | some th=>if th.ended then false else match th.qb.getLast? with
  | none=>false
  | some f=>match P.code[f.at_]? with
   | none=>false
   | some x =>
    if x.op=9 then(mget M.owner x.var).isNone
    else if x.op=8 then match f.qc.getD x.y.n (.num 0)with
     | .thr v=>match M.qd[v.toNat]? with
      | some u=>u.ended
      | none=>false
     | _=>true
    else true
def zex (P:Pr)(M:Mc):List Nat:=(List.range M.qd.length).filter (mayM P M)
def zfg (c:Int)(n:Nat):Nat:=((if c<0 then -(c+1)else c) % (n:Int)).toNat
def za6 (P:Pr)(M:Mc)(c:Int):Mc×Evn :=
 match zex P M with
 | []=>(M,{ obj:=0 })
 | t::l=>match(t::l)[zfg c (l.length+1)]? with
  | none=>(M,{})
  | some u=>let r:=zeg P { M with steps:=M.steps+1 } u;(r.1,{ r.2 with qw:=u })
def zef (P:Pr):Mc :=
 let f:Fr:=match P.fs[P.main]? with
  | some g=>{ at_:=zah P P.code.length g.from_,qc:=zp g.locals,back:=-1 }
  | none=>{ at_:=0,qc:=[],back:=-1 }
 { qd:=[{ qb:=[f],ended:=false,clock:=[(0,1)] }],held:=[],qt:=0,owner:=[],qq:=[],qp:=[],races:=[],steps:=0 }
section
abbrev spV (p:Sp):Value:=.agg #[.i p.1,.i p.2]
def iw (n:Int):Prop:=-9223372036854775808<=n/\n<=9223372036854775807
theorem wfI {n:Int}(h:iw n):(Lit.int .i64 n).wf=true:=by
 obtain⟨h1,h2⟩:=h;simp[Lit.wf,IntKind.min,IntKind.max,IntKind.bits,IntKind.signed];omega
def SpOk (p:Sp):Prop:=iw p.1/\iw p.2
theorem spInj (x y:Sp)(h:spV x=spV y):x=y:=by
 obtain⟨a,b⟩:=x;obtain⟨a',b'⟩:=y;simp only[spV]at h;injection h with h;simp at h;rw[h.1,h.2]
theorem spRow:(342:TypeId)<prog.types.size:=of_decide_eq_true yk
theorem spLaw:WideMaps.KeyLaw prog 342:=deep_law_laid zlf (m:=2) yo spRow yk (by rw[underlying342])
theorem ztu:prog.cellsOf 342=2:=yk
theorem spKeys (s:Nat)(p:Sp)(h:SpOk p)(hs:0<s):∃ l,prog.keyLits (s+1) 342 (spV p).cells.toList=some l:=by
 obtain⟨d,rfl⟩:∃ d,s=d+1:=⟨s-1,by omega⟩;have D:=wfI h.1;have E:=wfI h.2;have A:prog.cellsOf 3=1:=yk;have u2:prog.underlying 3=some (.int .i64):=yk;simp[Program.keyLits,Value.cells,underlying342,ztu,A,u2,D,E]
theorem zg1:zaw prog 342 spV SpOk where
 keyed:=Keyed.of_law spLaw
 reads:=fun p h=>by
  obtain⟨l,hl⟩:=spKeys prog.types.size p h (yag yZ spRow);have h2:prog.keyType 342=true:=yk;have h3:(spV p).formed prog 342=true:=by simp[Value.formed,underlying342,ztu]
  exact⟨_,by unfold keyOf;rw[underlying342];simp only[h2,h3,Bool.and_true,if_true,hl,ybv];rfl⟩
 inj:=spInj
theorem whRow:(349:TypeId)<prog.types.size:=of_decide_eq_true yk
theorem whLaw:WideMaps.KeyLaw prog 349:=deep_law_laid zlf (m:=2) yo whRow yk (by rw[underlying349])
theorem zug:prog.cellsOf 349=2:=yk
theorem whKeys (s:Nat)(p:Sp)(h:SpOk p)(hs:0<s):∃ l,prog.keyLits (s+1) 349 (spV p).cells.toList=some l:=by
 obtain⟨d,rfl⟩:∃ d,s=d+1:=⟨s-1,by omega⟩;have D:=wfI h.1;have E:=wfI h.2;have A:prog.cellsOf 3=1:=yk;have u2:prog.underlying 3=some (.int .i64):=yk;simp[Program.keyLits,Value.cells,underlying349,zug,A,u2,D,E]
theorem whKey:zaw prog 349 spV SpOk where
 keyed:=Keyed.of_law whLaw
 reads:=fun p h=>by
  obtain⟨l,hl⟩:=whKeys prog.types.size p h (yag yZ whRow);have h2:prog.keyType 349=true:=yk;have h3:(spV p).formed prog 349=true:=by simp[Value.formed,underlying349,zug]
  exact⟨_,by unfold keyOf;rw[underlying349];simp only[h2,h3,Bool.and_true,if_true,hl,ybv];rfl⟩
 inj:=spInj
theorem prRow:(51:TypeId)<prog.types.size:=of_decide_eq_true yk
theorem prLaw:WideMaps.KeyLaw prog 51:=deep_law_laid zlf (m:=2) yo prRow yk (by rw[underlying51])
theorem zs0:prog.cellsOf 51=2:=yk
theorem prKeys (s:Nat)(p:Sp)(h:SpOk p)(hs:0<s):∃ l,prog.keyLits (s+1) 51 (spV p).cells.toList=some l:=by
 obtain⟨d,rfl⟩:∃ d,s=d+1:=⟨s-1,by omega⟩;have D:=wfI h.1;have E:=wfI h.2;have A:prog.cellsOf 3=1:=yk;have u2:prog.underlying 3=some (.int .i64):=yk;simp[Program.keyLits,Value.cells,underlying51,zs0,A,u2,D,E]
theorem prKey:zaw prog 51 spV SpOk where
 keyed:=Keyed.of_law prLaw
 reads:=fun p h=>by
  obtain⟨l,hl⟩:=prKeys prog.types.size p h (yag yZ prRow);have h2:prog.keyType 51=true:=yk;have h3:(spV p).formed prog 51=true:=by simp[Value.formed,underlying51,zs0]
  exact⟨_,by unfold keyOf;rw[underlying51];simp only[h2,h3,Bool.and_true,if_true,hl,ybv];rfl⟩
 inj:=spInj
abbrev intV (n:Int):Value:=.i n
abbrev mapV (b:Nat):Value:=.m b
abbrev tcV (t:Tc):Value:=.agg #[.bool t.write,.i t.tick]
def vlV:Vl->Value
 | .num n=>.iface 256 (.i n)
 | .obj n=>.iface 451 (.i n)
 | .thr n=>.iface 401 (.i n)
theorem zdu:zaw prog 3 intV (fun n=>(Lit.int .i64 n).wf=true):=intKey yk
def MapE (w:World)(b:Nat){κ ν : Type} [DecidableEq κ] (enc:κ -> Value) (ok:κ -> Prop) (encv:ν -> Value) (m:List (κ × ν)):Prop :=
 ∃ m',zG w b enc ok encv m'/\∀ x,mget m' x=mget m x
section
variable {P:Program} {k e t:TypeId} {κ ν : Type} [DecidableEq κ] {enc:κ -> Value} {ok:κ -> Prop} {encv:ν -> Value} {w w':World} {b:Nat} {m m1:List (κ × ν)}
theorem MapE.qa (h:MapE w b enc ok encv m)(hb:w'.heap[b]? = w.heap[b]?):MapE w' b enc ok encv m:=by
 obtain⟨A,h1,h2⟩:=h;exact⟨A,h1.qa hb,h2⟩
theorem MapE.lt (h:MapE w b enc ok encv m):b<w.heap.size:=by
 obtain⟨A,h1,_⟩:=h;exact h1.lt
theorem MapE.drew (h:MapE w b enc ok encv m):MapE w.drew b enc ok encv m:=h
theorem MapE.cast (h:MapE w b enc ok encv m)(he:∀ x,mget m x=mget m1 x):MapE w b enc ok encv m1:=by
 obtain⟨A,h1,h2⟩:=h;exact⟨A,h1,fun x=>(h2 x).trans (he x)⟩
theorem zG.toE (h:zG w b enc ok encv m):MapE w b enc ok encv m:=⟨m,h,fun _=>rfl⟩
theorem MapE.lookup (h:MapE w b enc ok encv m)(K:zaw P k enc ok)(ht:P.underlying t=some (.map k e)){z:Value}(hz:(zeroValue e).run P w=.ok z w){x:κ}(hx:ok x)(c:Bool) :
  (Instr.lookup t (.m b) (enc x) c).run P w=.ok (match mget m x with | some u=>(if c then .tuple #[encv u,.bool true]else encv u) | none=>(if c then .tuple #[z,.bool false]else z)) w:=by
 obtain⟨A,h1,h2⟩:=h;rw[h1.lookup K ht hz hx c,h2 x];cases mget m x <;> rfl
theorem MapE.update (h:MapE w b enc ok encv m)(K:zaw P k enc ok)(ht:P.underlying t=some (.map k e)){x:κ}(hx:ok x)(u:ν) :
  ∃ w',(Instr.mapUpdate t (.m b) (enc x) (encv u)).run P w=.ok () w'/\MapE w' b enc ok encv (mput m x u)/\w.grownBy w' (some b)/\w'.heap.size=w.heap.size:=by
 obtain⟨A,h1,h2⟩:=h;obtain⟨w',a,b',c,d⟩:=h1.update K ht hx u;exact⟨w',a,⟨_,b',fun y=>by rw[xd,xd,h2]⟩,c,d⟩
end
inductive Rl where
 | out | m | ths | held | owner | clocks | touched | races
 | frs (t:Nat) | locs (t i:Nat) | clk (t:Nat) | mclk (x:Int) | tch (s:Sp)
 deriving DecidableEq
abbrev Lab:=Nat->Rl
def Same (lab:Lab)(S:Rl->Prop)(w w':World):Prop:=∀ k,S (lab k)->w'.heap[k]? = w.heap[k]?
abbrev zb (w:World)(b:Nat)(c:List (Int×Int)):Prop:=MapE w b intV (fun n=>(Lit.int .i64 n).wf=true) intV c
abbrev ze3 (w:World)(b:Nat)(c:List (Sp×Tc)):Prop:=MapE w b spV SpOk tcV c
structure TV where
 fv:Value
 ls:List Value
 cb:Nat
structure MV where
 tb:Nat
 vd:Nat
 tl:List TV
 hb:Nat
 ob:Nat
 kb:Nat
 ub:Nat
 rb:Nat
 kl:List (Int×Nat)
 ul:List (Sp×Nat)
def zlc (f:Fr)(v:Value):List Value:=[.i f.at_,v,.i f.back]
def zds (l:List Fr)(vs:List Value):List Value:=(List.zipWith zlc l vs).flatten
def zgb (h:Th)(v:TV):List Value:=[v.fv,.bool h.ended,.m v.cb]
def zcg (l:List Th)(vs:List TV):List Value:=(List.zipWith zgb l vs).flatten
def zbv (C:AX)(M:Mc)(V:MV):Array Value:=#[.p C.pb,.s V.tb M.qd.length V.vd,.m V.hb,.i M.qt,.m V.ob,.m V.kb,.m V.ub,.m V.rb,.i M.steps]
structure FrIs (w:World)(lab:Lab)(t i:Nat)(f:Fr)(v:Value):Prop where
 r:w.ownsRow 0 93 1 v f.qc.length (f.qc.map vlV)
 l:∀ k,v.ownBlock=some k->lab k=.locs t i
structure ThIs (w:World)(lab:Lab)(t:Nat)(h:Th)(v:TV):Prop where
 n:v.ls.length=h.qb.length
 r:w.ownsRow 0 250 3 v.fv h.qb.length (zds h.qb v.ls)
 l:∀ k,v.fv.ownBlock=some k->lab k=.frs t
 f:∀ (i:Nat) f u,h.qb[i]?=some f->v.ls[i]?=some u->FrIs w lab t i f u
 c:zb w v.cb h.clock
 cl:lab v.cb=.clk t
structure MIs (w:World)(lab:Lab)(mb:Nat)(C:AX)(M:Mc)(V:MV):Prop where
 m:Blk w mb 246 (zbv C M V)
 ml:lab mb=.m
 n:V.tl.length=M.qd.length
 r:w.ownsRow 0 254 3 (.s V.tb M.qd.length V.vd) M.qd.length (zcg M.qd V.tl)
 rl:lab V.tb=.ths
 t:∀ (t:Nat) h v,M.qd[t]?=some h->V.tl[t]?=some v->ThIs w lab t h v
 h:MapE w V.hb spV SpOk vlV M.held
 hl:lab V.hb=.held
 o:zb w V.ob M.owner
 ol:lab V.ob=.owner
 k:MapE w V.kb intV (fun n=>(Lit.int .i64 n).wf=true) mapV V.kl
 kl:lab V.kb=.clocks
 kc:∀ x b,mget V.kl x=some b->∃ c,mget M.qq x=some c/\lab b=.mclk x/\zb w b c
 kn:∀ x,mget V.kl x=none->mget M.qq x=none
 u:MapE w V.ub spV SpOk mapV V.ul
 ul:lab V.ub=.touched
 uc:∀ s b,mget V.ul s=some b->∃ c,mget M.qp s=some c/\lab b=.tch s/\ze3 w b c
 un:∀ s,mget V.ul s=none->mget M.qp s=none
 a:MapE w V.rb spV SpOk intV M.races
 al:lab V.rb=.races
section
variable {w w':World} {lab lab':Lab} {mb:Nat} {C:AX} {M:Mc} {V:MV} {S:Rl->Prop} {t i:Nat} {f:Fr} {u:Value} {h:Th} {v:TV}
theorem FrIs.vo (h:FrIs w lab t i f u)(hs:Same lab S w w')(h1:S (.locs t i)):FrIs w' lab t i f u :=
 ⟨xx h.r fun k e=>hs k (by rw[h.l k e];exact h1),h.l⟩
theorem ThIs.vo (g:ThIs w lab t h v)(hs:Same lab S w w')(h1:S (.frs t))(h2:∀ i,S (.locs t i))(h3:S (.clk t)):ThIs w' lab t h v :=
 ⟨g.n,xx g.r fun k e=>hs k (by rw[g.l k e];exact h1),g.l,fun i f u a b=>(g.f i f u a b).vo hs (h2 i),g.c.qa (hs _ (by rw[g.cl];exact h3)),g.cl⟩
theorem MIs.vo (g:MIs w lab mb C M V)(hs:Same lab (· ≠ .out) w w'):MIs w' lab mb C M V :=
 ⟨(hs mb (by rw[g.ml];simp)).trans g.m,g.ml,g.n,xx g.r fun k e=>by injection e with e;subst e;exact hs _ (by show lab V.tb≠_;rw[g.rl];simp),g.rl,
  fun t h v a b=>(g.t t h v a b).vo hs yy yy yy,
  g.h.qa (hs _ (by rw[g.hl];simp)),g.hl,g.o.qa (hs _ (by rw[g.ol];simp)),g.ol,g.k.qa (hs _ (by rw[g.kl];simp)),g.kl,
  fun x b e=>by obtain⟨c,a,l,i⟩:=g.kc x b e;exact⟨c,a,l,i.qa (hs _ (by rw[l];simp))⟩,g.kn,
  g.u.qa (hs _ (by rw[g.ul];simp)),g.ul,fun x b e=>by obtain⟨c,a,l,i⟩:=g.uc x b e;exact⟨c,a,l,i.qa (hs _ (by rw[l];simp))⟩,g.un,
  g.a.qa (hs _ (by rw[g.al];simp)),g.al⟩
theorem FrIs.relab (h:FrIs w lab t i f u)(hl:∀ k,k<w.heap.size->lab' k=lab k):FrIs w lab' t i f u :=
 ⟨h.r,fun k e=>(hl k (h.r.lt k e).2).trans (h.l k e)⟩
theorem ThIs.relab (g:ThIs w lab t h v)(hl:∀ k,k<w.heap.size->lab' k=lab k):ThIs w lab' t h v :=
 ⟨g.n,g.r,fun k e=>(hl k (g.r.lt k e).2).trans (g.l k e),fun i f u a b=>(g.f i f u a b).relab hl,g.c,(hl _ g.c.lt).trans g.cl⟩
theorem MIs.relab (g:MIs w lab mb C M V)(hl:∀ k,k<w.heap.size->lab' k=lab k):MIs w lab' mb C M V :=
 ⟨g.m,(hl _ g.m.lt).trans g.ml,g.n,g.r,(hl _ (g.r.lt _ rfl).2).trans g.rl,fun t h v a b=>(g.t t h v a b).relab hl,g.h,(hl _ g.h.lt).trans g.hl,g.o,(hl _ g.o.lt).trans g.ol,
  g.k,(hl _ g.k.lt).trans g.kl,fun x b e=>by obtain⟨c,a,l,i⟩:=g.kc x b e;exact⟨c,a,(hl _ i.lt).trans l,i⟩,g.kn,
  g.u,(hl _ g.u.lt).trans g.ul,fun x b e=>by obtain⟨c,a,l,i⟩:=g.uc x b e;exact⟨c,a,(hl _ i.lt).trans l,i⟩,g.un,g.a,(hl _ g.a.lt).trans g.al⟩
structure Out (lab:Lab)(eb:Nat)(w w':World):Prop where
 os:w'.os=w.os
 tape:w'.tape=w.tape
 output:w'.output=w.output
 size:w.heap.size<=w'.heap.size
 block:∀ k,k<w.heap.size->lab k=.out->k≠eb->w'.heap[k]? = w.heap[k]?
theorem Out.refl (lab:Lab)(eb:Nat)(w:World):Out lab eb w w:=⟨rfl,rfl,rfl,yr _,fun _ _ _ _=>rfl⟩
theorem Out.trans {w1:World}(h:Out lab eb w w1)(k:Out lab' eb w1 w2)(hl:∀ k,k<w.heap.size->lab' k=lab k):Out lab eb w w2 :=
 ⟨k.os.trans h.os,k.tape.trans h.tape,k.output.trans h.output,ya h.size k.size,fun i hi ho A=>(k.block i (yi hi h.size) ((hl i hi).trans ho) A).trans (h.block i hi ho A)⟩
theorem Out.drew (h:Out lab eb w w'):Out lab eb w w'.drew:=⟨h.os,h.tape,h.output,h.size,h.block⟩
theorem Out.alloc (h:Out lab eb w w')(o:Obj):Out lab eb w (w'.alloc o) :=
 ⟨h.os,h.tape,h.output,ya h.size yy,fun k A a b=>by rw[yak _ _ _ (yi A h.size)];exact h.block k A a b⟩
theorem Out.qe (h:Out lab eb w w'){p:Addr}(A:lab p.block≠.out\/p.block=eb\/w.heap.size<=p.block)(u:Value):Out lab eb w (w'.setCell p u) :=
 ⟨h.os,h.tape,h.output,by simpa [World.setCell] using h.size,fun k D a b=>by
  rw[yt _ _ _ _ (by
   rintro rfl;rcases A with A | A | A
   ·exact A a
   ·exact b A
   ·omega)]
  exact h.block k D a b⟩
theorem Out.grown {row:Option Nat}(h:Out lab eb w w')(hg:w'.grownBy w2 row)(hr:∀ k,row=some k->lab k≠.out\/k=eb\/w.heap.size<=k):Out lab eb w w2 :=
 ⟨hg.os.trans h.os,hg.tape.trans h.tape,hg.output.trans h.output,ya h.size hg.size,fun k D a b=>by
  rw[hg.block k (yi D h.size) (by
   intro e;rcases hr k e.symm with A | A | A
   ·exact A a
   ·exact b A
   ·omega)]
  exact h.block k D a b⟩
theorem Out.below {N:Nat}(h:Out lab eb w w')(hb:Below N w' w2)(hN:w'.heap.size<=N):Out lab eb w w2 :=
 ⟨hb.os.trans h.os,hb.tape.trans h.tape,hb.output.trans h.output,ya h.size hb.size,fun k A a b=>(hb.block k (yi A (ya h.size hN))).trans (h.block k A a b)⟩
structure MSt (C:AX)(lab:Lab)(mb:Nat)(M:Mc)(V:MV)(w:World):Prop where
 on:C.on w
 mi:MIs w lab mb C M V
 lo:∀ k,k<C.w0.heap.size->lab k=.out
 hi:∀ k,w.heap.size<=k->lab k=.out
theorem MSt.drew (g:MSt C lab mb M V w):MSt C lab mb M V w.drew:=⟨g.on.drew,g.mi.vo fun _ _=>rfl,g.lo,g.hi⟩
theorem MSt.o (g:MSt C lab mb M V w)(hs:Same lab (· ≠ .out) w w')(hb:C.on w')(hz:w.heap.size<=w'.heap.size):MSt C lab mb M V w' :=
 ⟨hb,g.mi.vo hs,g.lo,fun k A=>g.hi k (ya hz A)⟩
theorem MSt.alloc (g:MSt C lab mb M V w)(o:Obj):MSt C lab mb M V (w.alloc o) :=
 g.o (fun k E=>yak w o k (by
  rcases yF k w.heap.size with D | A
  ·exact D
  ·exact absurd (g.hi k A) E)) (g.on.alloc g.on.size o) yy
theorem MSt.qi (g:MSt C lab mb M V w){p:Addr}(hp:lab p.block=.out)(hb:C.w0.heap.size<=p.block)(u:Value):MSt C lab mb M V (w.setCell p u) :=
 g.o (fun k A=>yt w p u k (by rintro rfl;exact A hp)) (g.on.setCell hb u) (by simp[World.setCell])
theorem MSt.below (g:MSt C lab mb M V w)(hb:Below w.heap.size w w'):MSt C lab mb M V w' :=
 g.o (fun k E=>hb.block k (by
  rcases yF k w.heap.size with D | A
  ·exact D
  ·exact absurd (g.hi k A) E)) (g.on.trans (hb.mono g.on.size)) hb.size
end
end
section
section
variable {α β : Type} {fn:α -> β -> List Value} {n:Nat}
theorem zne (hf:∀ a b,(fn a b).length=n):∀ {l:List α} {vs:List β} {k:Nat} {a:α} {b:β},l[k]?=some a->vs[k]?=some b->∀ j,j<n->((List.zipWith fn l vs).flatten)[k*n+j]? = (fn a b)[j]?
 | [],_,k,a,b,h,_,_,_=>by simp at h
 | _::_,[],k,a,b,_,h,_,_=>by simp at h
 | x::l,y::vs,0,a,b,h,hb,j,hj=>by
  simp at h hb;subst h hb;show(fn x y++(List.zipWith fn l vs).flatten)[0*n+j]? = _;rw[yz (by rw[hf];omega),ycn,ybf]
 | x::l,y::vs,k+1,a,b,h,hb,j,hj=>by
  show(fn x y++(List.zipWith fn l vs).flatten)[(k+1)*n+j]? = _;rw[yC (by rw[hf,ycx];omega),show(k+1)*n+j-(fn x y).length=k*n+j by rw[hf,ycx];omega];exact zne hf (by simpa using h) (by simpa using hb) j hj
theorem zla (hf:∀ a b,(fn a b).length=n):∀ {l:List α} {vs:List β} {k:Nat} {a a':α} {b b':β} {j:Nat} {u:Value},l[k]?=some a->vs[k]?=some b->j<n->fn a' b'=(fn a b).set j u ->
  ((List.zipWith fn l vs).flatten).set (k*n+j) u=(List.zipWith fn (l.set k a') (vs.set k b')).flatten
 | [],_,k,a,_,b,_,_,_,h,_,_,_=>by simp at h
 | _::_,[],k,a,_,b,_,_,_,_,h,_,_=>by simp at h
 | x::l,y::vs,0,a,a',b,b',j,u,h,hb,hj,he=>by
  simp at h hb;subst h hb;show(fn x y++(List.zipWith fn l vs).flatten).set (0*n+j) u=fn a' b'++(List.zipWith fn l vs).flatten;rw[ycn,ybf,List.set_append_left _ _ (by rw[hf];exact hj),he]
 | x::l,y::vs,k+1,a,a',b,b',j,u,h,hb,hj,he=>by
  show(fn x y++(List.zipWith fn l vs).flatten).set ((k+1)*n+j) u=fn x y++(List.zipWith fn (l.set k a') (vs.set k b')).flatten;rw[yce _ _ (by rw[hf,ycx];omega),show(k+1)*n+j-(fn x y).length=k*n+j by rw[hf,ycx];omega,zla hf (by simpa using h) (by simpa using hb) hj he]
theorem znf:∀ {l:List α} {vs:List β} {k:Nat} {a a':α} {b:β},l[k]?=some a->vs[k]?=some b->fn a' b=fn a b->(List.zipWith fn (l.set k a') vs).flatten=(List.zipWith fn l vs).flatten
 | [],_,k,a,_,b,h,_,_=>by simp at h
 | _::_,[],k,a,_,b,_,h,_=>by simp at h
 | x::l,y::vs,0,a,a',b,h,hb,he=>by
  simp at h hb;subst h hb;show fn a' y++_=fn x y++_;rw[he]
 | x::l,y::vs,k+1,a,a',b,h,hb,he=>by
  show fn x y++(List.zipWith fn (l.set k a') vs).flatten=fn x y++(List.zipWith fn l vs).flatten;rw[znf (by simpa using h) (by simpa using hb) he]
theorem zjp:∀ {l:List α} {vs:List β} {a:α} {b:β},vs.length=l.length->(List.zipWith fn (l++[a]) (vs++[b])).flatten=(List.zipWith fn l vs).flatten++fn a b
 | [],[],_,_,_=>by simp
 | x::l,y::vs,a,b,h=>by
  show fn x y++(List.zipWith fn (l++[a]) (vs++[b])).flatten=fn x y++(List.zipWith fn l vs).flatten++fn a b;rw[zjp (by simpa using h),ya7]
 | [],_::_,_,_,h=>by simp at h
 | _::_,[],_,_,h=>by simp at h
end
theorem setAt {α: Type}{l:List α}{a a':α}(h:l[k]?=some a):(l.set k a')[k]?=some a':=by
 rw[ybt (yh.1 h).1]
theorem zhv {α: Type}{l:List α}{a':α}(h:k≠j):(l.set k a')[j]? = l[j]? := yb5 h
theorem zgz {α: Type}{l:List α}{a:α}(h:l[k]?=some a):l.set k a=l:=WideElems.set_self _ _ _ h
theorem zey (w:World)(p:Addr)(u:Value):w.grownBy (w.setCell p u) (some p.block) :=
 ⟨rfl,rfl,rfl,by simp,fun k _ A=>heap_setCell_other w p k u (fun e=>A (by simp[e]))⟩
section
variable {w w':World} {lab lab':Lab} {mb:Nat} {C:AX} {M:Mc} {V:MV} {t i:Nat} {f:Fr} {u:Value} {h h':Th} {v:TV} {R:Rl}
theorem MSt.own (g:MSt C lab mb M V w)(hk:lab k≠.out):C.w0.heap.size<=k/\k<w.heap.size:=by
 refine⟨?_,?_⟩
 ·rcases yF k C.w0.heap.size with h | h
  ·exact absurd (g.lo k h) hk
  ·exact h
 ·rcases yF k w.heap.size with h | h
  ·exact h
  ·exact absurd (g.hi k h) hk
theorem MSt.vk {M':Mc}{V':MV}(g:MSt C lab mb M V w)(hg:w.grownBy w' (some b))(hb:lab b=R)(hR:R≠.out)(hm:Same lab (fun r=>r≠.out/\r≠R) w w'->MIs w' lab mb C M' V'):MSt C lab mb M' V' w' :=
 ⟨g.on.grown hg (yaw (yag (g.own (by rw[hb];exact hR)).1 (g.own (by rw[hb];exact hR)).2)) (fun k e=>by injection e with e;subst e;exact(g.own (by rw[hb];exact hR)).1),
  hm fun k A=>hg.block k (g.own A.1).2 (fun e=>by injection e with e;subst e;exact A.2 hb),g.lo,fun k A=>g.hi k (ya hg.size A)⟩
theorem MIs.heldE {m:List (Sp×Vl)}(g:MIs w lab mb C M V)(hs:Same lab (fun r=>r≠.out/\r≠.held) w w')(he:MapE w' V.hb spV SpOk vlV m):MIs w' lab mb C { M with held:=m } V :=
 ⟨(hs mb (by rw[g.ml];simp)).trans g.m,g.ml,g.n,xx g.r fun k e=>by injection e with e;subst e;exact hs _ (by show lab V.tb≠_/\_;rw[g.rl];simp),g.rl,
  fun t h v a b=>(g.t t h v a b).vo hs yy yy yy,he,g.hl,g.o.qa (hs _ (by rw[g.ol];simp)),g.ol,g.k.qa (hs _ (by rw[g.kl];simp)),g.kl,
  fun x b e=>by obtain⟨c,a,l,i⟩:=g.kc x b e;exact⟨c,a,l,i.qa (hs _ (by rw[l];simp))⟩,g.kn,
  g.u.qa (hs _ (by rw[g.ul];simp)),g.ul,fun x b e=>by obtain⟨c,a,l,i⟩:=g.uc x b e;exact⟨c,a,l,i.qa (hs _ (by rw[l];simp))⟩,g.un,
  g.a.qa (hs _ (by rw[g.al];simp)),g.al⟩
theorem MIs.ownerE {m:List (Int×Int)}(g:MIs w lab mb C M V)(hs:Same lab (fun r=>r≠.out/\r≠.owner) w w')(he:zb w' V.ob m):MIs w' lab mb C { M with owner:=m } V :=
 ⟨(hs mb (by rw[g.ml];simp)).trans g.m,g.ml,g.n,xx g.r fun k e=>by injection e with e;subst e;exact hs _ (by show lab V.tb≠_/\_;rw[g.rl];simp),g.rl,
  fun t h v a b=>(g.t t h v a b).vo hs yy yy yy,g.h.qa (hs _ (by rw[g.hl];simp)),g.hl,he,g.ol,g.k.qa (hs _ (by rw[g.kl];simp)),g.kl,
  fun x b e=>by obtain⟨c,a,l,i⟩:=g.kc x b e;exact⟨c,a,l,i.qa (hs _ (by rw[l];simp))⟩,g.kn,
  g.u.qa (hs _ (by rw[g.ul];simp)),g.ul,fun x b e=>by obtain⟨c,a,l,i⟩:=g.uc x b e;exact⟨c,a,l,i.qa (hs _ (by rw[l];simp))⟩,g.un,
  g.a.qa (hs _ (by rw[g.al];simp)),g.al⟩
theorem MIs.racesE {m:List (Sp×Int)}(g:MIs w lab mb C M V)(hs:Same lab (fun r=>r≠.out/\r≠.races) w w')(he:MapE w' V.rb spV SpOk intV m):MIs w' lab mb C { M with races:=m } V :=
 ⟨(hs mb (by rw[g.ml];simp)).trans g.m,g.ml,g.n,xx g.r fun k e=>by injection e with e;subst e;exact hs _ (by show lab V.tb≠_/\_;rw[g.rl];simp),g.rl,
  fun t h v a b=>(g.t t h v a b).vo hs yy yy yy,g.h.qa (hs _ (by rw[g.hl];simp)),g.hl,g.o.qa (hs _ (by rw[g.ol];simp)),g.ol,g.k.qa (hs _ (by rw[g.kl];simp)),g.kl,
  fun x b e=>by obtain⟨c,a,l,i⟩:=g.kc x b e;exact⟨c,a,l,i.qa (hs _ (by rw[l];simp))⟩,g.kn,
  g.u.qa (hs _ (by rw[g.ul];simp)),g.ul,fun x b e=>by obtain⟨c,a,l,i⟩:=g.uc x b e;exact⟨c,a,l,i.qa (hs _ (by rw[l];simp))⟩,g.un,he,g.al⟩
theorem MIs.cellsE {o s:Nat}(g:MIs w lab mb C M V)(hs:Same lab (fun r=>r≠.out/\r≠.m) w w')(he:Blk w' mb 246 (zbv C { M with qt:=o,steps:=s } V)):MIs w' lab mb C { M with qt:=o,steps:=s } V :=
 ⟨he,g.ml,g.n,xx g.r fun k e=>by injection e with e;subst e;exact hs _ (by show lab V.tb≠_/\_;rw[g.rl];simp),g.rl,
  fun t h v a b=>(g.t t h v a b).vo hs yy yy yy,g.h.qa (hs _ (by rw[g.hl];simp)),g.hl,g.o.qa (hs _ (by rw[g.ol];simp)),g.ol,g.k.qa (hs _ (by rw[g.kl];simp)),g.kl,
  fun x b e=>by obtain⟨c,a,l,i⟩:=g.kc x b e;exact⟨c,a,l,i.qa (hs _ (by rw[l];simp))⟩,g.kn,
  g.u.qa (hs _ (by rw[g.ul];simp)),g.ul,fun x b e=>by obtain⟨c,a,l,i⟩:=g.uc x b e;exact⟨c,a,l,i.qa (hs _ (by rw[l];simp))⟩,g.un,
  g.a.qa (hs _ (by rw[g.al];simp)),g.al⟩
theorem MIs.thrE {v':TV}(g:MIs w lab mb C M V)(ht:M.qd[t]?=some h)(hv:V.tl[t]?=some v)(hs:Same lab (fun r=>r≠.out/\r≠.ths/\r≠.frs t/\(∀ i,r≠.locs t i)/\r≠.clk t) w w')
  (hr:w'.ownsRow 0 254 3 (.s V.tb M.qd.length V.vd) M.qd.length (zcg (M.qd.set t h') (V.tl.set t v'))) (hT:ThIs w' lab t h' v'):MIs w' lab mb C (setTh M t h') { V with tl:=V.tl.set t v' } :=
 ⟨by have:=(hs mb (by rw[g.ml];simp)).trans g.m;unfold Blk zbv at *;simpa [setTh] using this,g.ml,by simp[setTh,g.n],by simpa [setTh] using hr,g.rl,
  fun t2 h2 v2 a b=>by
   by_cases e:t=t2
   ·subst e;rw[show(setTh M t h').qd=M.qd.set t h' from rfl,setAt ht]at a;rw[setAt hv]at b;injection a with a;injection b with b;subst a b;exact hT
   ·rw[show(setTh M t h').qd=M.qd.set t h' from rfl,zhv e]at a;rw[zhv e]at b;exact(g.t t2 h2 v2 a b).vo hs ⟨by simp,by simp,fun e'=>by injection e' with e';exact e e'.symm,by simp,by simp⟩ (fun i=>⟨by simp,by simp,by simp,fun j e'=>by injection e' with e';exact e e'.symm,by simp⟩) ⟨by simp,by simp,by simp,by simp,fun e'=>by injection e' with e';exact e e'.symm⟩,
  g.h.qa (hs _ (by rw[g.hl];simp)),g.hl,g.o.qa (hs _ (by rw[g.ol];simp)),g.ol,g.k.qa (hs _ (by rw[g.kl];simp)),g.kl,
  fun x b e=>by obtain⟨c,a,l,i⟩:=g.kc x b e;exact⟨c,a,l,i.qa (hs _ (by rw[l];simp))⟩,g.kn,
  g.u.qa (hs _ (by rw[g.ul];simp)),g.ul,fun x b e=>by obtain⟨c,a,l,i⟩:=g.uc x b e;exact⟨c,a,l,i.qa (hs _ (by rw[l];simp))⟩,g.un,
  g.a.qa (hs _ (by rw[g.al];simp)),g.al⟩
theorem MIs.rowSet (g:MIs w lab mb C M V)(ht:M.qd[t]?=some h)(hv:V.tl[t]?=some v){v':TV}{x:Value}(hj:j<3)(he:zgb h' v'=(zgb h v).set j x) :
  (w.setCell (.a V.tb (t*3+j)) x).ownsRow 0 254 3 (.s V.tb M.qd.length V.vd) M.qd.length (zcg (M.qd.set t h') (V.tl.set t v')):=by
 have:=(g.r.stored (t*3+j) x).1;unfold zcg at this;rw[zla (n:=3) (fun _ _=>rfl) ht hv hj he]at this;exact this
theorem MIs.thrK (g:MIs w lab mb C M V)(ht:M.qd[t]?=some h)(hv:V.tl[t]?=some v)(hs:Same lab (fun r=>r≠.out/\r≠R) w w')(hR:R=.frs t\/(∃ i,R=.locs t i)\/R=.clk t)(he:h'.ended=h.ended)(hT:ThIs w' lab t h' v):MIs w' lab mb C (setTh M t h') V:=by
 have D:R≠.ths:=by rcases hR with rfl | ⟨i,rfl⟩ | rfl <;> simp
 have E:w'.ownsRow 0 254 3 (.s V.tb M.qd.length V.vd) M.qd.length (zcg M.qd V.tl) :=
  xx g.r fun k e=>by injection e with e;subst e;exact hs _ (by show lab V.tb≠_/\_;rw[g.rl];exact⟨by simp,fun e=>D e.symm⟩)
 have:=g.thrE (h':=h') (v':=v) ht hv (w':=w') (fun k A=>hs k ⟨A.1,fun e=>by
  rcases hR with rfl | ⟨i,rfl⟩ | rfl
  ·exact A.2.2.1 e
  ·exact A.2.2.2.1 i e
  ·exact A.2.2.2.2 e⟩) (by
   rw[zgz hv];unfold zcg;rw[znf ht hv (by simp[zgb,he])];exact E) hT
 rw[zgz hv]at this;exact this
theorem MIs.atE {g0 c0 a:Nat}(g:MIs w lab mb C M V)(ht:M.qd[t]?=some h)(hv:V.tl[t]?=some v)(hf:h.qb[i]?=some f)(hu:v.fv=.s g0 h.qb.length c0)
  (hs:Same lab (fun r=>r≠.out/\r≠.frs t) w (w.setCell (.a g0 (i*3)) (.i a))):MIs (w.setCell (.a g0 (i*3)) (.i a)) lab mb C (setTh M t { h with qb:=h.qb.set i { f with at_:=a } }) V:=by
 have A:=g.t t h v ht hv;obtain⟨lv,hlv⟩:∃ lv,v.ls[i]?=some lv:=⟨_,yc (by rw[A.n];exact(yh.1 hf).1)⟩;have D:=A.r;rw[hu]at D;refine g.thrK (R:=.frs t) ht hv hs (.inl rfl) rfl ⟨by simp[A.n],?_,A.l,fun j f' u a b=>?_,A.c.qa (hs _ (by rw[A.cl];simp)),A.cl⟩
 ·have:=(D.stored (i*3+0) (.i a)).1;unfold zds at this;rw[zla (n:=3) (fun _ _=>rfl) hf hlv (a':={ f with at_:=a }) (b':=lv) yo rfl,zgz hlv]at this;rw[hu];unfold zds;simpa using this
 ·by_cases e:i=j
  ·subst e;rw[setAt hf]at a;injection a with a;subst a;have:=(A.f i f u hf b).vo hs yy;exact⟨this.r,this.l⟩
  ·rw[zhv e]at a;exact(A.f j f' u a b).vo hs yy
theorem MIs.locE {g0 c0 x:Nat}{lv:Value}{y:Vl}(g:MIs w lab mb C M V)(ht:M.qd[t]?=some h)(hv:V.tl[t]?=some v)(hf:h.qb[i]?=some f)(hlv:v.ls[i]?=some lv)(hu:lv=.s g0 f.qc.length c0)
  (hs:Same lab (fun r=>r≠.out/\r≠.locs t i) w (w.setCell (.a g0 x) (vlV y))):MIs (w.setCell (.a g0 x) (vlV y)) lab mb C (setTh M t { h with qb:=h.qb.set i { f with qc:=f.qc.set x y } }) V:=by
 have A:=g.t t h v ht hv;have D:=A.f i f lv hf hlv;refine g.thrK (R:=.locs t i) ht hv hs (.inr (.inl ⟨i,rfl⟩)) rfl ⟨by simp[A.n],?_,A.l,fun j f' u a b=>?_,A.c.qa (hs _ (by rw[A.cl];simp)),A.cl⟩
 ·rw[show(h.qb.set i { f with qc:=f.qc.set x y }).length=h.qb.length by simp];unfold zds
  dsimp only
  rw[znf (a':={ f with qc:=f.qc.set x y }) hf hlv rfl];exact xx A.r fun k e=>hs _ (by rw[A.l k e];simp)
 ·by_cases e:i=j
  ·subst e;rw[setAt hf]at a;rw[hlv]at b;injection a with a;injection b with b;subst a b;have E:=D.r;rw[hu]at E;refine⟨?_,D.l⟩;have:=(E.stored x (vlV y)).1;rw[hu];simpa [yco] using this
  ·rw[zhv e]at a;exact(A.f j f' u a b).vo hs (by simp;exact fun e'=>e e'.symm)
theorem MIs.clkE (g:MIs w lab mb C M V)(ht:M.qd[t]?=some h)(hv:V.tl[t]?=some v)(hs:Same lab (fun r=>r≠.out/\r≠.clk t) w w')(hc:zb w' v.cb c):MIs w' lab mb C (setTh M t { h with clock:=c }) V:=by
 have A:=g.t t h v ht hv;exact g.thrK (R:=.clk t) ht hv hs (.inr (.inr rfl)) rfl ⟨A.n,xx A.r fun k e=>hs _ (by rw[A.l k e];simp),A.l,fun j f' u a b=>(A.f j f' u a b).vo hs yy,hc,A.cl⟩
theorem MIs.mclkE (g:MIs w lab mb C M V)(hs:Same lab (fun r=>r≠.out/\r≠.clocks) w w')(hb:lab b=.mclk x)(hc:zb w b c)(hk:MapE w' V.kb intV (fun n=>(Lit.int .i64 n).wf=true) mapV (mput V.kl x b)) :
  MIs w' lab mb C { M with qq:=mput M.qq x c } { V with kl:=mput V.kl x b } :=
 ⟨(hs mb (by rw[g.ml];simp)).trans g.m,g.ml,g.n,xx g.r fun k e=>by injection e with e;subst e;exact hs _ (by show lab V.tb≠_/\_;rw[g.rl];simp),g.rl,
  fun t h v a b=>(g.t t h v a b).vo hs yy yy yy,g.h.qa (hs _ (by rw[g.hl];simp)),g.hl,g.o.qa (hs _ (by rw[g.ol];simp)),g.ol,hk,g.kl,
  fun y b' e=>by
   rw[xd]at e;split at e
   ·rename_i A;subst A;injection e with e;subst e;exact⟨c,by rw[xd,yj rfl],hb,hc.qa (hs _ (by rw[hb];simp))⟩
   ·rename_i A;obtain⟨c,a,l,i⟩:=g.kc y b' e;exact⟨c,by rw[xd,yg A];exact a,l,i.qa (hs _ (by rw[l];simp))⟩,
  fun y e=>by
   rw[xd]at e |-;split at e
   ·cases e
   ·rename_i A;rw[yg A];exact g.kn y e,
  g.u.qa (hs _ (by rw[g.ul];simp)),g.ul,fun x b e=>by obtain⟨c,a,l,i⟩:=g.uc x b e;exact⟨c,a,l,i.qa (hs _ (by rw[l];simp))⟩,g.un,
  g.a.qa (hs _ (by rw[g.al];simp)),g.al⟩
theorem MIs.utchE {c:List (Sp×Tc)}{x:Sp}(g:MIs w lab mb C M V)(hs:Same lab (fun r=>r≠.out/\r≠.touched) w w')(hb:lab b=.tch x)(hc:ze3 w b c)(hk:MapE w' V.ub spV SpOk mapV (mput V.ul x b)) :
  MIs w' lab mb C { M with qp:=mput M.qp x c } { V with ul:=mput V.ul x b } :=
 ⟨(hs mb (by rw[g.ml];simp)).trans g.m,g.ml,g.n,xx g.r fun k e=>by injection e with e;subst e;exact hs _ (by show lab V.tb≠_/\_;rw[g.rl];simp),g.rl,
  fun t h v a b=>(g.t t h v a b).vo hs yy yy yy,g.h.qa (hs _ (by rw[g.hl];simp)),g.hl,g.o.qa (hs _ (by rw[g.ol];simp)),g.ol,
  g.k.qa (hs _ (by rw[g.kl];simp)),g.kl,fun x b e=>by obtain⟨c,a,l,i⟩:=g.kc x b e;exact⟨c,a,l,i.qa (hs _ (by rw[l];simp))⟩,g.kn,hk,g.ul,
  fun y b' e=>by
   rw[xd]at e;split at e
   ·rename_i A;subst A;injection e with e;subst e;exact⟨c,by rw[xd,yj rfl],hb,hc.qa (hs _ (by rw[hb];simp))⟩
   ·rename_i A;obtain⟨c,a,l,i⟩:=g.uc y b' e;exact⟨c,by rw[xd,yg A];exact a,l,i.qa (hs _ (by rw[l];simp))⟩,
  fun y e=>by
   rw[xd]at e |-;split at e
   ·cases e
   ·rename_i A;rw[yg A];exact g.un y e,
  g.a.qa (hs _ (by rw[g.al];simp)),g.al⟩
theorem MIs.tchE {c c':List (Sp×Tc)}{x:Sp}(g:MIs w lab mb C M V)(hk:mget V.ul x=some b)(hx:mget M.qp x=some c)(hs:Same lab (fun r=>r≠.out/\r≠.tch x) w w')(hc:ze3 w' b c') :
  MIs w' lab mb C { M with qp:=mput M.qp x c' } V :=
 ⟨(hs mb (by rw[g.ml];simp)).trans g.m,g.ml,g.n,xx g.r fun k e=>by injection e with e;subst e;exact hs _ (by show lab V.tb≠_/\_;rw[g.rl];simp),g.rl,
  fun t h v a b=>(g.t t h v a b).vo hs yy yy yy,g.h.qa (hs _ (by rw[g.hl];simp)),g.hl,g.o.qa (hs _ (by rw[g.ol];simp)),g.ol,
  g.k.qa (hs _ (by rw[g.kl];simp)),g.kl,fun x b e=>by obtain⟨c,a,l,i⟩:=g.kc x b e;exact⟨c,a,l,i.qa (hs _ (by rw[l];simp))⟩,g.kn,g.u.qa (hs _ (by rw[g.ul];simp)),g.ul,
  fun y b' e=>by
   by_cases A:x=y
   ·subst A;rw[hk]at e;injection e with e;subst e;obtain⟨_,_,l,_⟩:=g.uc x b hk;exact⟨c',by rw[xd,yj rfl],l,hc⟩
   ·obtain⟨c,a,l,i⟩:=g.uc y b' e;exact⟨c,by rw[xd,yg A];exact a,l,i.qa (hs _ (by rw[l];simp;exact fun e=>A e.symm))⟩,
  fun y e=>by
   rw[xd];by_cases A:x=y
   ·subst A;rw[hk]at e;cases e
   ·rw[yg A];exact g.un y e,
  g.a.qa (hs _ (by rw[g.al];simp)),g.al⟩
end
end
theorem zaq {a:Addr}{v:Value}(h:w.cell? a=some v):a.block<w.heap.size:=by
 rcases yF a.block w.heap.size with D | A
 ·exact D
 ·unfold World.cell? at h;rw[Array.getElem?_eq_none A]at h;cases h
theorem zlg {l:List Vl}{x:Vl}(hr:w.ownsRow 0 93 1 (.s lg l.length lc) l.length (l.map vlV))(hx:l[n]?=some x):w.cell? (.a lg n)=some (vlV x):=by
 have A:n<l.length:=(yh.1 hx).1;rw[hr.cellAt n yo,yV,hx];rfl
def zmp (w:World)(v:Vl)(e:Ending)(w':World):Prop:=e=.r (vlV v)/\Below w.heap.size w w'
theorem zhz (w:World)(g o:Nat)(a:Ar)(f:Fr)(lv:Value)(hl:w.cell? (.a g (o+1))=some lv)(hr:w.ownsRow 0 93 1 lv f.qc.length (f.qc.map vlV))(hn:a.c=false->a.n<f.qc.length) :
  Calls prog 301 #[.q g o,.agg #[.bool a.c,.i a.n]] w (zmp w (valM f a)):=by
 cases hc:a.c
 ·obtain⟨x,hx⟩:∃ x,f.qc[a.n]?=some x:=⟨_,yc (hn hc)⟩;have I:a.n<f.qc.length:=hn hc;obtain⟨J,lc,rfl,_,H⟩:=hr.form yo;have D:valM f a=x:=by unfold valM;rw[hc];simp[List.getD,hx]
  have E:=zlg hr hx;have G:=zaq hl;have A:=zH (fun(n:Nat)=>show zmp w (valM f a) (.r (vlV x)) ((w.alloc (.k #[.bool false,.i a.n] 306)).drewN n)from⟨by rw[D],zc7 ((yn _ w).alloc yL _) n⟩);clear hr hn D hx hc;go_enter func301,ntmps301;go_wp2_with fail;go_quiet (fail);go_wp2;go_ret;exact A.o _
 ·have D:valM f a=.num a.n:=by unfold valM;rw[hc];rfl
  have A:=zH (show zmp w (valM f a) (.r (.iface 256 (.i a.n))) (w.alloc (.k #[.bool true,.i a.n] 306))from⟨by rw[D];rfl,(yn _ w).alloc yL _⟩);clear hl hr hn D hc;go_enter func301,ntmps301;go_wp2;go_ret;exact A.o
theorem zom (w:World)(b:Bool):Calls prog 302 #[.bool b] w fun e w'=>e=.r (vlV (zdh b))/\w'=w:=by
 cases b
 ·go_enter func302,ntmps302;go_wp2;go_ret;exact⟨rfl,rfl⟩
 ·go_enter func302,ntmps302;go_wp2;go_ret;exact⟨rfl,rfl⟩
theorem zwg {κ ν: Type} [DecidableEq κ] {enc:κ -> Value} {ok:κ -> Prop} {encv:ν -> Value} {m:List (κ × ν)}  (w:World) (h:MapE w b enc ok encv m) :
  Calls prog 176 #[.m b] w fun e w'=>e=.r (.m w.heap.size)/\MapE w' w.heap.size enc ok encv m/\Below w.heap.size w w'/\w'.heap.size=w.heap.size+1:=by
 obtain⟨H,⟨A,clock,hb,h1,h2,h3,h4,h5⟩,E⟩:=h;have D:=zH (show MapE (w.alloc (.map A clock)) w.heap.size enc ok encv m/\Below w.heap.size w (w.alloc (.map A clock))/\(w.alloc (.map A clock)).heap.size=w.heap.size+1 from
  ⟨⟨H,⟨A,clock,heap_alloc_new w _,h1,h2,h3,h4,h5⟩,E⟩,(yn _ w).alloc yL _,by simp⟩)
 have I:=fun w=>run_eql_map_nil_sl (P:=prog) w 240 _ _ (some b) underlying240;have G:=zH hb;clear h1 h2 h3 h4 h5 E hb;go_enter func176,ntmps176;go_wp2;rw[run_callFunc_extern func199 yk yk yk (e:=Extern.MapsClone.clone) yk,run_maps_clone_sl w 240 G.o];simp only[Result.andThen];rw[Oper.upon_value];go_wp2;rw[run_typeAssert_map_sl _ 240 20 _ _ _ underlying240];simp only[Result.andThen];rw[Oper.upon_value];go_wp2;go_ret;exact⟨rfl,D.o⟩
theorem zwh {κ ν: Type} [DecidableEq κ] {enc:κ -> Value} {ok:κ -> Prop} {encv:ν -> Value} {m:List (κ × ν)}  (w:World) (h:MapE w b enc ok encv m) :
  Calls prog 177 #[.m b] w fun e w'=>e=.r (.m w.heap.size)/\MapE w' w.heap.size enc ok encv m/\Below w.heap.size w w'/\w'.heap.size=w.heap.size+1:=by
 obtain⟨H,⟨A,clock,hb,h1,h2,h3,h4,h5⟩,E⟩:=h;have D:=zH (show MapE (w.alloc (.map A clock)) w.heap.size enc ok encv m/\Below w.heap.size w (w.alloc (.map A clock))/\(w.alloc (.map A clock)).heap.size=w.heap.size+1 from
  ⟨⟨H,⟨A,clock,heap_alloc_new w _,h1,h2,h3,h4,h5⟩,E⟩,(yn _ w).alloc yL _,by simp⟩)
 have I:=fun w=>run_eql_map_nil_sl (P:=prog) w 241 _ _ (some b) underlying241;have G:=zH hb;clear h1 h2 h3 h4 h5 E hb;go_enter func177,ntmps177;go_wp2;rw[run_callFunc_extern func199 yk yk yk (e:=Extern.MapsClone.clone) yk,run_maps_clone_sl w 241 G.o];simp only[Result.andThen];rw[Oper.upon_value];go_wp2;rw[run_typeAssert_map_sl _ 241 20 _ _ _ underlying241];simp only[Result.andThen];rw[Oper.upon_value];go_wp2;go_ret;exact⟨rfl,D.o⟩
theorem zwi {κ ν: Type} [DecidableEq κ] {enc:κ -> Value} {ok:κ -> Prop} {encv:ν -> Value} {m:List (κ × ν)}  (w:World) (h:MapE w b enc ok encv m) :
  Calls prog 180 #[.m b] w fun e w'=>e=.r (.m w.heap.size)/\MapE w' w.heap.size enc ok encv m/\Below w.heap.size w w'/\w'.heap.size=w.heap.size+1:=by
 obtain⟨H,⟨A,clock,hb,h1,h2,h3,h4,h5⟩,E⟩:=h;have D:=zH (show MapE (w.alloc (.map A clock)) w.heap.size enc ok encv m/\Below w.heap.size w (w.alloc (.map A clock))/\(w.alloc (.map A clock)).heap.size=w.heap.size+1 from
  ⟨⟨H,⟨A,clock,heap_alloc_new w _,h1,h2,h3,h4,h5⟩,E⟩,(yn _ w).alloc yL _,by simp⟩)
 have I:=fun w=>run_eql_map_nil_sl (P:=prog) w 346 _ _ (some b) underlying346;have G:=zH hb;clear h1 h2 h3 h4 h5 E hb;go_enter func180,ntmps180;go_wp2;rw[run_callFunc_extern func199 yk yk yk (e:=Extern.MapsClone.clone) yk,run_maps_clone_sl w 346 G.o];simp only[Result.andThen];rw[Oper.upon_value];go_wp2;rw[run_typeAssert_map_sl _ 346 20 _ _ _ underlying346];simp only[Result.andThen];rw[Oper.upon_value];go_wp2;go_ret;exact⟨rfl,D.o⟩
theorem zqa {κ ν: Type} [DecidableEq κ] {enc:κ -> Value} {ok:κ -> Prop} {encv:ν -> Value} {m:List (κ × ν)}  (w:World) (h:MapE w b enc ok encv m) :
  Calls prog 128 #[.m b] w fun e w'=>e=.r (.m w.heap.size)/\MapE w' w.heap.size enc ok encv m/\Below w.heap.size w w'/\w'.heap.size=w.heap.size+1:=by
 obtain⟨H,⟨A,clock,hb,h1,h2,h3,h4,h5⟩,E⟩:=h;have D:=zH (show MapE (w.alloc (.map A clock)) w.heap.size enc ok encv m/\Below w.heap.size w (w.alloc (.map A clock))/\(w.alloc (.map A clock)).heap.size=w.heap.size+1 from
  ⟨⟨H,⟨A,clock,heap_alloc_new w _,h1,h2,h3,h4,h5⟩,E⟩,(yn _ w).alloc yL _,by simp⟩)
 have I:=fun w=>run_eql_map_nil_sl (P:=prog) w 98 _ _ (some b) underlying98;have G:=zH hb;clear h1 h2 h3 h4 h5 E hb;go_enter func128,ntmps128;go_wp2;rw[run_callFunc_extern func199 yk yk yk (e:=Extern.MapsClone.clone) yk,run_maps_clone_sl w 98 G.o];simp only[Result.andThen];rw[Oper.upon_value];go_wp2;rw[run_typeAssert_map_sl _ 98 20 _ _ _ underlying98];simp only[Result.andThen];rw[Oper.upon_value];go_wp2;go_ret;exact⟨rfl,D.o⟩
theorem zk4 {κ ν: Type} [DecidableEq κ] {enc:κ -> Value} {ok:κ -> Prop} {encv:ν -> Value} {m:List (κ × ν)}  (w:World) (h:MapE w b enc ok encv m) :
  Calls prog 178 #[.m b] w fun e w'=>e=.r (.m w.heap.size)/\MapE w' w.heap.size enc ok encv m/\Below w.heap.size w w'/\w'.heap.size=w.heap.size+1:=by
 obtain⟨H,⟨A,clock,hb,h1,h2,h3,h4,h5⟩,E⟩:=h;have D:=zH (show MapE (w.alloc (.map A clock)) w.heap.size enc ok encv m/\Below w.heap.size w (w.alloc (.map A clock))/\(w.alloc (.map A clock)).heap.size=w.heap.size+1 from
  ⟨⟨H,⟨A,clock,heap_alloc_new w _,h1,h2,h3,h4,h5⟩,E⟩,(yn _ w).alloc yL _,by simp⟩)
 have I:=fun w=>run_eql_map_nil_sl (P:=prog) w 252 _ _ (some b) underlying252;have G:=zH hb;clear h1 h2 h3 h4 h5 E hb;go_enter func178,ntmps178;go_wp2;rw[run_callFunc_extern func199 yk yk yk (e:=Extern.MapsClone.clone) yk,run_maps_clone_sl w 252 G.o];simp only[Result.andThen];rw[Oper.upon_value];go_wp2;rw[run_typeAssert_map_sl _ 252 20 _ _ _ underlying252];simp only[Result.andThen];rw[Oper.upon_value];go_wp2;go_ret;exact⟨rfl,D.o⟩
theorem vl_one (v:Vl):(vlV v).oneCell'=true:=by cases v <;> rfl
theorem zor:zj prog 247 93 1 16:=zj.mk' underlying247 (z:=.nilIface) yk rfl yd yd
theorem zt5:zj prog 251 250 3 40:=zj.mk' underlying251 (z:=.agg #[.i 0,.z,.i 0]) yk rfl yd yd
theorem zoq:zj prog 244 254 3 40:=zj.mk' underlying244 (z:=.agg #[.z,.bool false,.map none]) yk rfl yd yd
def zh8 (w:World)(l:List Vl)(e:Ending)(w':World):Prop:=∃ v,e=.r v/\w'.ownsRow w.heap.size 93 1 v l.length (l.map vlV)/\Below w.heap.size w w'
theorem zwj (w:World)(B:Nat)(v:Value)(l:List Vl)(hl:l.length<=1000)(h:w.ownsRow B 93 1 v l.length (l.map vlV)) :
  Calls prog 179 #[v] w (zh8 w l):=by
 obtain⟨a,c,rfl⟩:=zZ h;have a1:∀ (w:World) (a:Option Addr) (n c N J:Nat),(binOp .eql 247 (.slice a n c) (.slice none N J)).run prog w=.ok (.bool a.isNone) w:=fun w a n c N J=>Lib.run_eql_slice_nil w _ _ a n c N J underlying247;cases a with
 | none =>
  have L:l=[]:=by
   rcases h.2 with⟨_,h⟩ | ⟨g,cap,K,h,_⟩
   ·exact List.eq_nil_of_length_eq_zero h
   ·cases h
  subst L;go_enter func179,ntmps179;go_wp2;go_ret;exact⟨_,rfl,yA _ _ _ _,yn _ _⟩
 | some a =>
  obtain⟨g,o,x⟩:=a;have Y:o=0/\x=none:=by
   rcases h.2 with⟨h,_⟩ | ⟨g,cap,K,h,_⟩
   ·cases h
   ·injection h with h;injection h with h;injection h with h1 h2 h3;exact⟨h2,h3⟩
  obtain⟨rfl,rfl⟩:=Y;have A:Aside (∀ j u,(l.map vlV)[j]?=some u->w.cell? (.a g j)=some u):=fun j u hu=>by
   have a0:j<l.length:=by have:=(yh.1 hu).1;simpa using this
   rw[h.cellAt j yo,hu]
  have O:=zH hl;clear h hl;go_enter func179,ntmps179;go_wp2_with (at_builtin;refine zbj ?_);refine zbk ?_;obtain⟨ti,tz,t1,t2,R,S,U⟩:=zor.info;refine wpList_append_own _ rfl _ _ 247 rfl w.heap.size 93 ti tz 1 16 zor.ut t1 t2 R S U yo _ _ _ rfl (World.ownsRow_made w #[] 0 yL yZ yy) ⟨g,0,none⟩ l.length c (l.map vlV) rfl ?qc1 ?qc2 ?qc3 ?qc4 ?qc5 ?qc6 ?_
  case qc1=>simp
  case qc2 =>
   intro j u Z;rw[Addr.add_lit];exact Lib.cell?_alloc_some _ (by simpa using A.o j u Z)
  case qc3 =>
   intro u hu;obtain⟨v,_,rfl⟩:=yae.1 hu;exact vl_one v
  case qc4=>have:=O.o;unfold maxLen;omega
  case qc5=>have:=O.o;omega
  case qc6=>simp
  clear t1 t2 R S U;intro v' W E D H;have G:(w.alloc (.k #[] 93)).grownBy W (some w.heap.size):=D;have I:=zH (show zh8 w l (.r v') W from⟨v',rfl,by simpa using E,((yn _ w).alloc yL _).grown G yy (fun k Q=>by injection Q with Q;omega)⟩);clear G;clear E D H;go_wp2;go_ret;exact I.o
theorem zyo (w:World)(n:Int)(h:n=0\/n=1\/n=2\/n=3\/n=4\/n=5\/n=6):Calls prog 300 #[.int .u64 1,.int .u64 n] w fun e w'=>e=.r (.tuple #[.int .u64 0,.int .u64 n])/\w'=w:=by
 rcases h with rfl | rfl | rfl | rfl | rfl | rfl | rfl
 all_goals
  go_enter func300,ntmps300;go_wp2_with fail;go_ret2;exact⟨rfl,rfl⟩
theorem mul_one (w:World)(n:Int)(h:n=0\/n=1\/n=2\/n=3\/n=4\/n=5\/n=6):Calls prog 249 #[.int .u64 1,.int .u64 n] w fun e w'=>e=.r (.tuple #[.int .u64 0,.int .u64 n])/\w'=w:=by
 have A:=zH (fun W=>zyo W n h);clear h;go_enter func249,ntmps249;go_wp2_with fail;refine(A.o _).mono ?_;rintro e w' ⟨rfl,rfl⟩;go_wp2_with fail;go_ret2;exact⟨rfl,rfl⟩
def zaz (n k:Nat):List Value:=List.replicate k (vlV (.num 0))++List.replicate (n-k) .nilIface
theorem zqv (h:k+j<=n):splice (zaz n k) k (List.replicate j (vlV (.num 0)))=zaz n (k+j):=by
 unfold splice zaz;rw[List.take_append_of_le_length yy,ycb yy,ybz,List.drop_append,List.drop_of_length_le yy,yas,ybz,List.drop_replicate,<- ya7,List.replicate_append_replicate];congr 2;omega
theorem zqt (h:k<=n):(zaz n k).length=n:=by simp[zaz];omega
theorem zxb (hb:w.heap[h]?=some (.cells (zaz n k).toArray 93 (0,0)))(hj:j<k):w.cell? (.a h j)=some (vlV (.num 0)):=by
 rw[cell_of_row w h j _ _ _ hb];simp[zaz,List.getElem?_append,hj]
theorem fill_src {m:Nat}{v:Value}(hb:w.heap[h]?=some (.cells (zaz n k).toArray 93 (0,0)))(hm:m<=k)(hj:(List.replicate m (vlV (.num 0)))[j]?=some v):w.cell? ((⟨h,0,none⟩:Addr).add j)=some v:=by
 have A:=(yh.1 hj).1;obtain rfl:v=vlV (.num 0):=ybo (yl hj);rw[Addr.add_lit];rw[ybf];exact zxb hb (by simp at A;omega)
theorem zqu:∀ j,∀ u ∈ List.replicate j (vlV (.num 0)),u.oneCell'=true:=fun j u hu=>by
 rw[ybo hu];rfl
theorem val_info:∃ i,prog.info? 93=some i/\i.zero=some .nilIface/\i.size=1/\i.bytes=16:=info_parts yk
theorem zub:(prog.info? 93).map (·.size)=some 1:=yk
def zme (n h:Nat)(w:World)(gk:Nat)(v8:Value)(W:World):Prop :=
 ∃ k:Nat,v8=.i k/\gk=n-k/\k<=n/\(0<n->0<k)/\W.heap[h]?=some (.cells (zaz n k).toArray 93 (0,0))/\Below w.heap.size w W
theorem fill_row {W:World}(hn:n<=6)(hb:W.heap[h]?=some (.cells (zaz n n).toArray 93 (0,0)))(hh:w.heap.size<=h):W.ownsRow w.heap.size 93 1 (.s h n n) (zp n).length ((zp n).map vlV):=by
 have e:zaz n n=(zp n).map vlV:=by simp[zaz,zp]
 have hl:(zp n).length=n:=by simp[zp]
 rw[e]at hb;rw[hl];exact⟨by simp[hl],.inr ⟨h,n,_,rfl,hh,hb,yr _,by unfold maxLen;omega,by simp[hl],by rw[ycb];simp[hl]⟩⟩
theorem rgm {P:Program}{Q:Exit->Act->World->Prop}{l l2:List Oper}{last:Oper}{a:Act}{w:World}{id:Nat}(n:Nat)(S:World->Prop)(h:wpAnyH P .any l2.toArray (zbx P l.toArray n Q) S n (Array.replicate n false) a w.drew)
  (hm:P.follows .mixedOrders=true:=by kernel_rfl) (hn:l.length=n+1:=by exact rfl) (hlast:l[n]?=some last:=by exact rfl) (hB:zjy .any (l.take n) last=true:=by kernel_rfl) (h2:l.take n=l2:=by simp only [List.take_succ_cons,List.take_zero];exact rfl):(Code.region id l.toArray true).wp P Q a w :=
 zfp n S hm hn hlast hB (h2 ▸ h)
theorem zzv (w:World)(g n c:Nat)(hn:n<=6)(hx:w.cell? (.a g 0)=some (vlV (.num 0))):Calls prog 163 #[.s g 1 c,.i n] w (zh8 w (zp n)):=by
 have S:=zH (fun W=>mul_one W n yo);have Q:(Instr.makeSlice 247 (.i n) (.i n)).run prog w=.ok (.s w.heap.size n n) (w.alloc (.k (zaz n 0).toArray 93)):=by
  obtain⟨i,z,hi,hz,a6,a7,_⟩:=zor.info;have a8:z=.nilIface:=by
   obtain⟨i',D,R,_⟩:=val_info;rw[hi]at D;injection D with D;subst D;rw[hz]at R;injection R
  subst a8;have hr:=run_make (P:=prog) w 247 93 i _ underlying247 hi hz .i64 .i64 n n yo (Int.le_refl _) (by rw[a7];omega) yo;rw[hr,a6];simp only[ybl,yci];have e:madeCells (Value.nilIface).cells n=(zaz n 0).toArray:=by
   apply ycu;rw[show Value.nilIface.cells=#[Value.nilIface]from rfl,toList_madeCells_one];simp[zaz]
  rw[e]
 have HX:=zH (show ∀ j,j<n->(w.alloc (.k (zaz n 0).toArray 93)).cell? (.a g 0)=some (vlV (.num 0))from fun _ _=>Lib.cell?_alloc_some _ hx);go_enter func163,ntmps163;go_wp2_with fail;refine(S.o _).mono ?_;rintro e w' ⟨rfl,rfl⟩;obtain⟨h,U⟩:∃ h,h=w'.heap.size:=⟨_,rfl⟩;rw[<- U]at Q;have J:(w'.alloc (.k (zaz n 0).toArray 93)).heap[h]?=some (.cells (zaz n 0).toArray 93 (0,0)):=by rw[U];exact heap_alloc_new _ _
 have HB:=zH (And.intro J (show Below w'.heap.size w' (w'.alloc (.k (zaz n 0).toArray 93))from yB.alloc yL _));have HH:=zH (Nat.le_of_eq U.symm);clear hx J U;go_wp2_with (refine wpList_copy_splice rfl (.tmp 31) (.tmp 32) 247 247 rfl 93 underlying247 zub (some ⟨h,0,none⟩) (some ⟨g,0,none⟩) n n 1 c rfl rfl h 0 (zaz n 0) 93 HB.o.1 (List.replicate (min 1 n) (vlV (.num 0))) yy ?q1 (by rw[zqt yZ];simp;omega) (zqu _) w'.heap.size w' HB.o.2 HH.o ?_)
 case q1 =>
  intro a9 j v Y;have a3:j=0:=by have:=(yh.1 Y).1;simp at this;omega
  subst a3;obtain rfl:v=vlV (.num 0):=ybo (yl Y);exact HX.o 0 yo
 intro w4 L H;have ST:=zH (show zme n h w' (n-min 1 n) (.i ((min 1 n:Nat):Int)) w4 from⟨min 1 n,rfl,rfl,by omega,by omega,by have:=L.o;rw[zqv yo,ybf]at this;exact this,H⟩);clear L H Q;clear HX HB S;go_wp2_with fail;go_loopg [8] (n-min 1 n) (fun gk v8 wr=>zme n h w' gk v8 wr)
 case atStart=>simpa using ST.o
 case round =>
  obtain⟨k,rfl,hg,hk,h0,hb,hB⟩:=hrel;have HG:=zH hg;have E:=zH hb;have HW:=zH hB;clear hg hb hB;by_cases aa:k<n
  ·obtain⟨m,hm⟩:∃ m,m=Nat.min k (n-k):=⟨_,rfl⟩;have a4:m<=k:=by rw[hm];exact Nat.min_le_left _ _
   have O:k+m<=n:=by have:=Nat.min_le_right k (n-k);rw[<- show m=min k (n-k)from hm]at this;omega
   have ab:0<m:=by rw[hm];exact Nat.lt_min.2 ⟨h0 yo,by omega⟩
   have S:=zH hm;clear hm;have a5:¬ n=k:=yo;go_wp2_with fail;have A:=True.intro;refine rgm 9 (fun _=>True) ?_
   iterate 7(refine tK 0 rfl A ?_)
   refine rdy 7 rfl fun K G=>?_;refine step_copy_splice rfl (.tmp 41) (.tmp 44) 247 247 rfl 93 underlying247 zub (some ⟨h,k,none⟩) (some ⟨h,0,none⟩) (n-k) (n-k) k n rfl rfl h k (zaz n k) 93 E.o (List.replicate m (vlV (.num 0))) (by rw[ybz];exact S.o) (fun _=>⟨rfl,_,rfl,fun j v Y=>fill_src E.o a4 Y⟩) (by rw[zqt hk,ybz];exact O) (zqu _) w'.heap.size w' HW.o.drew HH.o ?_;intro w5 N I;have a1:=zH (show w5.heap[h]?=some (.cells (zaz n (k+m)).toArray 93 (0,0)) by have:=N.o;rw[zqv O]at this;exact this);have a0:=zH I;clear N I;rw[ybz];go_simp;refine G.o _ _ trivial (fun A=>?_);clear G K;refine tK 8 rfl A ?_;refine lst rfl fun K G=>?_;go_simp;refine G _ _ ?_;clear G K A;have a2:=zH (show zme n h w' (n-(k+m)) (.i ((k+m:Nat):Int)) w5 from⟨k+m,rfl,rfl,by omega,by omega,a1.o,a0.o⟩);clear a5;go_wp2;go_roundg (n-(k+m))
   case measure=>have:=HG.o;omega
   case rel=>rw[show IntKind.i64.wrap ((k:Int)+m)=((k+m:Nat):Int) by simp[IntKind.wrap,IntKind.bits,IntKind.signed];omega];exact a2.o
  ·obtain rfl:k=n:=yo;have Z:=zH (show zh8 w' (zp k) (.r (.s h k k)) wr from⟨_,rfl,fill_row hn E.o HH.o,HW.o⟩);go_wp2;go_ret;exact Z.o
theorem zn4 (w:World)(n:Nat)(hn:n<=6):Calls prog 116 #[.i n] w (zh8 w (zp n)):=by
 have E:=zH (zzv (w.alloc (.k #[vlV (.num 0)] 93)) w.heap.size n 1 hn ((Blk.new w _ _).cell 0));go_enter func116,ntmps116;go_wp2_with fail;refine E.o.mono ?_;rintro e G ⟨v,rfl,D,hb⟩;have A:=zH (show zh8 w (zp n) (.r v) G from⟨v,rfl,zm D yy,((yn w.heap.size w).alloc yL _).trans (hb.mono yy)⟩);clear D hb;go_wp2;go_ret;exact A.o
section
structure SkipOk (P:Pr):Prop where
 skip:∀ k,k<P.code.length->∃ i,P.code[zah P P.code.length k]?=some i/\i.op≠20
 tgt:∀ (k:Nat) (i:In),P.code[k]?=some i->i.op=20->i.to<P.code.length
theorem ztq {P:Pr}{n:Nat}{i:In}(hi:P.code[k]?=some i)(h:i.op=20):zah P (n+1) k=zah P n i.to:=by
 rw[zah,hi];simp only[h,if_true]
theorem zts {P:Pr}{n:Nat}{i:In}(hi:P.code[k]?=some i)(h:i.op≠20):zah P n k=k:=by
 cases n with
 | zero=>rfl
 | succ n=>rw[zah,hi];simp only[h,if_false]
theorem zhs {w:World}{B e size n g o c:Nat}{xs:List Value}(h:w.ownsRow B e size (.t g o n c) n xs):∀ j,w.frozen? (.a g j)=false:=by
 rcases h.2 with⟨h',_⟩ | ⟨G,A,D,h',hb,E,_⟩
 ·cases h'
 ·injection h' with h';injection h' with h';injection h' with h1 _ _;subst h1;intro j;simp[World.frozen?,E]
theorem zki {w:World}{B e size n:Nat}{v:Value}{xs:List Value}(h:w.ownsRow B e size v n xs)(hk:k<=n):wrap64 (k:Int)=(k:Int):=by
 have hn:n<=maxLen:=by
  rcases h.2 with⟨_,h⟩ | ⟨_,cap,_,_,_,_,h1,h2,_⟩
  ·omega
  ·omega
 unfold maxLen at hn;unfold wrap64;omega
structure TopP (M:Mc)(V:MV)(t:Nat)(h:Th)(f:Fr)(n:Nat)(v:TV)(fg fc:Nat)(lv:Value):Prop where
 ht:M.qd[t]?=some h
 hv:V.tl[t]?=some v
 hn:h.qb.length=n+1
 hf:h.qb[n]?=some f
 hu:v.fv=.s fg h.qb.length fc
 hlv:v.ls[n]?=some lv
structure Top (w:World)(lab:Lab)(M:Mc)(V:MV)(t:Nat)(h:Th)(f:Fr)(n:Nat)(v:TV)(fg fc:Nat)(lv:Value):Prop where
 T:ThIs w lab t h v
 F:FrIs w lab t n f lv
 lt:t<M.qd.length
 t0:w.cell? (.a V.tb (t*3))=some (.s fg h.qb.length fc)
 t1:w.cell? (.a V.tb (t*3+1))=some (.bool h.ended)
 t2:w.cell? (.a V.tb (t*3+2))=some (.m v.cb)
 f0:w.cell? (.a fg (n*3))=some (.i f.at_)
 f1:w.cell? (.a fg (n*3+1))=some lv
 f2:w.cell? (.a fg (n*3+2))=some (.i f.back)
 l:lab fg=.frs t
 fz:∀ j,w.frozen? (.a fg j)=false
 fl:fg<w.heap.size
section
variable {w:World} {lab:Lab} {mb:Nat} {C:AX} {M:Mc} {V:MV} {t n fg fc:Nat} {f:Fr} {h:Th} {v:TV} {lv:Value}
theorem zfi (g:MIs w lab mb C M V)(ht:M.qd[t]?=some h)(hv:V.tl[t]?=some v):∀ j,j<3->w.cell? (.a V.tb (t*3+j))=(zgb h v)[j]? := fun j A=>by
 have D:t<M.qd.length:=(yh.1 ht).1;rw[g.r.cellAt (t*3+j) yo];exact zne (n:=3) (fun _ _=>rfl) ht hv j A
theorem zqy (g:ThIs w lab t h v)(hu:v.fv=.s fg h.qb.length fc)(hf:h.qb[n]?=some f)(hlv:v.ls[n]?=some lv):∀ j,j<3->w.cell? (.a fg (n*3+j))=(zlc f lv)[j]? := fun j D=>by
 have E:n<h.qb.length:=(yh.1 hf).1;have A:=g.r;rw[hu]at A;rw[A.cellAt (n*3+j) yo];exact zne (n:=3) (fun _ _=>rfl) hf hlv j D
theorem TopP.top (p:TopP M V t h f n v fg fc lv)(g:MSt C lab mb M V w):Top w lab M V t h f n v fg fc lv:=by
 have A:=g.mi.t t h v p.ht p.hv;have c1:=zfi g.mi p.ht p.hv;have D:=zqy A p.hu p.hf p.hlv;have E:=A.r;rw[p.hu]at E;exact⟨A,A.f n f lv p.hf p.hlv,(yh.1 p.ht).1,(c1 0 yo).trans (by rw[<- p.hu];rfl),c1 1 yo,c1 2 yo,D 0 yo,D 1 yo,D 2 yo,A.l fg (by rw[p.hu];rfl),zhs E,(E.lt fg rfl).2⟩
theorem MSt.topP (g:MSt C lab mb M V w)(ht:M.qd[t]?=some h)(hl:h.qb.getLast? = some f):∃ n v fg D lv,TopP M V t h f n v fg D lv:=by
 obtain⟨v,hv⟩:∃ v,V.tl[t]?=some v:=⟨_,yc (by rw[g.mi.n];exact(yh.1 ht).1)⟩;have G:=g.mi.t t h v ht hv;have A:=hl;rw[yar]at A;have E:=(yh.1 A).1;obtain⟨fg,D,hu,_,_⟩:=G.r.form yo;obtain⟨lv,hlv⟩:∃ lv,v.ls[h.qb.length-1]?=some lv:=⟨_,yc (by rw[G.n];exact E)⟩;exact⟨h.qb.length-1,v,fg,D,lv,ht,hv,by omega,A,hu,hlv⟩
theorem TopP.last (p:TopP M V t h f n v fg fc lv):h.qb.getLast? = some f:=by
 rw[yar,p.hn,ya4];exact p.hf
theorem TopP.len (p:TopP M V t h f n v fg fc lv){h':Th}(e:h'.qb.length=h.qb.length){f':Fr}{M':Mc}(ht:M'.qd[t]?=some h')(hf:h'.qb[n]?=some f'):TopP M' V t h' f' n v fg fc lv :=
 ⟨ht,p.hv,e.trans p.hn,hf,by rw[p.hu,e],p.hlv⟩
theorem z0z (h:Th)(f:Fr):(zh h f).qb.length=h.qb.length:=by simp[zh]
theorem TopP.qe (p:TopP M V t h f n v fg fc lv)(f':Fr):TopP (zQ M t h f') V t (zh h f') f' n v fg fc lv :=
 p.len (z0z _ _) (setAt p.ht) (by show(h.qb.set (h.qb.length-1) f')[n]? = _;rw[p.hn,ya4,setAt p.hf])
theorem TopP.topSet_eq (p:TopP M V t h f n v fg fc lv)(f':Fr):zh h f'={ h with qb:=h.qb.set n f' }:=by
 unfold zh;rw[p.hn,ya4]
theorem z0f (p:TopP M V t h f n v fg fc lv):zQ M t h f=M:=by
 unfold zQ;rw[p.topSet_eq,zgz p.hf];show setTh M t h=M;unfold setTh;rw[zgz p.ht]
theorem zgy (M:Mc)(t:Nat)(h h':Th):setTh (setTh M t h) t h'=setTh M t h':=by
 unfold setTh;simp
theorem z0g (M:Mc)(t:Nat)(h:Th)(f f':Fr):zQ (zQ M t h f) t (zh h f) f'=zQ M t h f':=by
 unfold zQ;rw[zgy];unfold zh;simp
theorem MSt.atS (g:MSt C lab mb M V w)(p:TopP M V t h f n v fg fc lv)(a:Nat):MSt C lab mb (zQ M t h { f with at_:=a }) V (w.setCell (.a fg (n*3)) (.i a))/\∀ eb,Out lab eb w (w.setCell (.a fg (n*3)) (.i a)):=by
 have T:=p.top g;refine⟨g.vk (b:=fg) (zey _ _ _) T.l yy fun A=>?_,fun eb=>(Out.refl lab eb w).qe (.inl (by show lab fg≠_;rw[T.l];simp)) _⟩;have:=g.mi.atE (a:=a) p.ht p.hv p.hf p.hu A;unfold zQ;rw[p.topSet_eq];exact this
theorem Out.lt {w:World}(h:Out lab eb w w')(hk:k<w.heap.size):k<w'.heap.size:=yi hk h.size
theorem MSt.cells (g:MSt C lab mb M V w):∀ j,w.cell? (.a mb j)=(zbv C M V)[j]? := g.mi.m.cell
end
theorem MSt.drewN {C:AX}{lab:Lab}{mb:Nat}{M:Mc}{V:MV}{w:World}(g:MSt C lab mb M V w)(n:Nat):MSt C lab mb M V (w.drewN n):=⟨zc7 g.on n,g.mi.vo fun _ _=>rfl,g.lo,g.hi⟩
theorem Out.drewN {lab:Lab}{w:World}(h:Out lab eb w w')(n:Nat):Out lab eb w (w'.drewN n):=⟨h.os,h.tape,h.output,h.size,h.block⟩
def SkRel (C:AX)(lab:Lab)(mb:Nat)(M:Mc)(V:MV)(t:Nat)(h:Th)(f:Fr)(w:World)(gk:Nat)(W:World):Prop :=
 ∃ k,zah C.P gk k=zah C.P C.P.code.length f.at_/\k<C.P.code.length/\MSt C lab mb (zQ M t h { f with at_:=k }) V W/\∀ eb,Out lab eb w W
def zi6 (C:AX)(lab:Lab)(mb:Nat)(M:Mc)(V:MV)(w:World)(e:Ending)(w':World):Prop:=e=.e/\MSt C lab mb M V w'/\∀ eb,Out lab eb w w'
theorem zoi (C:AX)(HC:AXok C)(hW:SkipOk C.P)(lab:Lab)(mb:Nat)(M:Mc)(V:MV)(t:Nat)(h:Th)(f:Fr)(w:World)(g:MSt C lab mb M V w)(ht:M.qd[t]?=some h)(hl:h.qb.getLast? = some f)(hk:f.at_<C.P.code.length) :
  Calls prog 117 #[.p mb,.i t] w (zi6 C lab mb (zbo C.P M t) V w):=by
 obtain⟨n,v,fg,fc,lv,p⟩:=g.topP ht hl;have T:=p.top g;have hm:=g.cells;unfold zbv at hm;have t0:=T.t0;have tl:=T.lt;have hn:(h.qb.length:Int)-1=(n:Int):=yq p.hn;have R:((h.qb.length:Int)==0)=false:=zI (yq p.hn);have G:n<h.qb.length:=yq p.hn;have S:wrap64 (n:Int)=(n:Int):=zki T.T.r (yaw G);have W:zbo C.P M t=zQ M t h { f with at_:=zah C.P C.P.code.length f.at_ }:=by unfold zbo;rw[ht];simp only[hl]
 have ST:=zH (show SkRel C lab mb M V t h f w C.P.code.length w from⟨f.at_,rfl,hk,by rw[show({ f with at_:=f.at_ }:Fr)=f from rfl,z0f p];exact g,fun E=>Out.refl _ _ _⟩);have HM:=zH W;have HP:=zH p;have U:=zH hW;have Z:=zH hk;clear W g T p ht hl hk hW;go_enter func117,ntmps117;go_wp2_with fail;clear hm t0 hn R G tl S;go_loopg [] C.P.code.length (fun gk wr=>SkRel C lab mb M V t h f w gk wr)
 case atStart=>exact ST.o
 case round =>
  obtain⟨k,I,Q,g,ho⟩:=hrel;have p:=HP.o.qe { f with at_:=k };have T:=p.top g;obtain⟨i,hi⟩:∃ i,C.P.code[k]?=some i:=⟨_,yc Q⟩;obtain⟨aa,ac,D,_,_⟩:=HC.ql g.on hi;have i0:wr.cell? (.a C.cg (k*14))=some (.i i.op):=D 0 yo;have a1:wr.cell? (.n C.cg k 13)=some (.i i.to):=D 13 yo;have a0:wr.cell? (.a mb 0)=some (.p C.pb):=g.cells 0;have hp:=HC.vt g.on;have f0:=T.f0;have fz:=T.fz
  dsimp only at f0
  by_cases A:i.op=20
  ·have o2:((i.op:Int)==20)=true:=by rw[A];rfl
   have J:=U.o.tgt k i hi A;obtain⟨O,Y⟩:=g.atS p i.to;rw[z0g]at O;have H:∃ m,gk=m+1:=by
    cases gk with
    | zero =>
     obtain⟨i',h1,h2⟩:=U.o.skip f.at_ Z.o;rw[<- I,show zah C.P 0 k=k from rfl,hi]at h1;injection h1 with h1;subst h1;exact absurd A h2
    | succ m=>exact⟨m,rfl⟩
   obtain⟨m,rfl⟩:=H;have L:=zH (fun N=>show SkRel C lab mb M V t h f w m ((wr.setCell (.a fg (n*3)) (.i i.to)).drewN N)from⟨i.to,by rw[<- I,ztq hi A],J,O.drewN N,fun E=>((ho E).trans (Y E) (fun _ _=>rfl)).drewN N⟩);clear g p T D hi I ho A O Y J;go_wp2_with fail;go_quiet (fail);go_wp2_with fail;go_region;go_wp2;go_roundg m
   case measure=>omega
   case rel=>exact L.o _
  ·have o2:((i.op:Int)==20)=false:=zI yo;have K:=zH (fun N=>show zi6 C lab mb (zbo C.P M t) V w (.e) (wr.drewN N)from⟨rfl,by
    rw[HM.o,<- I,zts hi A];exact g.drewN N,fun E=>(ho E).drewN N⟩)
   clear g p T D hi I ho A;go_wp2_with fail;go_quiet (fail);go_wp2_with fail;refine ym (yp rfl _ _ _) rfl ?_;exact K.o _
end
theorem zq6 {w1:World}{row:Option Nat}(h:w.grownBy w1 (some b))(h':w1.grownBy w2 row)(hr:∀ k,row=some k->k=b\/w.heap.size<=k):w.grownBy w2 (some b) :=
 ⟨h'.os.trans h.os,h'.tape.trans h.tape,h'.output.trans h.output,ya h.size h'.size,fun k A hn=>(h'.block k (yi A h.size) (fun e=>by
  rcases hr k e.symm with rfl | h
  ·exact hn rfl
  ·omega)).trans (h.block k A hn)⟩
theorem gb_refl (w:World)(b:Nat):w.grownBy w (some b):=⟨rfl,rfl,rfl,yr _,fun _ _ _=>rfl⟩
theorem zq5 (h:Below w.heap.size w w')(b:Nat):w.grownBy w' (some b):=⟨h.os,h.tape,h.output,h.size,fun k A _=>h.block k A⟩
def mgM (c d:List (Int×Int))(x:Int):Option Int:=match mget d x with
 | none=>mget c x
 | some n=>some (max (zJ c x) n)
theorem zrs (d:List (Int×Int)):∀ (l c:List (Int×Int)),(∀ p ∈ l,∃ n,mget d p.1=some n)->∀ x,mget (l.foldl (fun c p=>mput c p.1 (max (zJ c p.1) (zJ d p.1))) c) x=if x ∈ l.map (·.1)then mgM c d x else mget c x
 | [],c,_,x=>by simp
 | p::l,c,h,x=>by
  obtain⟨n,hn⟩:=h p yy;have A:zJ d p.1=n:=by unfold zJ;rw[hn];rfl
  rw[List.foldl_cons,zrs d l _ (fun q D=>h q (by simp[D])) x];by_cases hx:p.1=x
  ·subst hx;have e:mgM c d p.1=some (max (zJ c p.1) n):=by unfold mgM;rw[hn]
   by_cases hm:p.1 ∈ l.map (·.1)
   ·rw[yj hm,yj yy,e];unfold mgM;rw[hn];simp only[zJ,xd,if_true,ybb,hn];congr 1;omega
   ·rw[yg hm,yj yy,xd,yj rfl,e,A]
  ·have h1:mget (mput c p.1 (max (zJ c p.1) (zJ d p.1))) x=mget c x:=by rw[xd,yg hx]
   have h2:mgM (mput c p.1 (max (zJ c p.1) (zJ d p.1))) d x=mgM c d x:=by unfold mgM zJ;rw[show mget (mput c p.1 (max ((mget c p.1).getD 0) ((mget d p.1).getD 0))) x=mget c x from h1]
   rw[h1,h2];simp only[yT,yW,show(x=p.1)=False from eq_false (fun e=>hx e.symm),false_or]
theorem zll {κ ν: Type} [DecidableEq κ] {m:List (κ × ν)} {x:κ} (h:x ∉ m.map (·.1)):mget m x=none:=zhl.2 fun p A e=>h (yae.2 ⟨p,A,e⟩)
theorem zrr (c d:List (Int×Int))(x:Int):mget (zd9 c d) x=mgM c d x:=by
 unfold zd9;rw[zrs d d c (fun p A=>by
  cases h:mget d p.1 with
  | none=>exact absurd rfl (zhl.1 h p A)
  | some n=>exact⟨n,rfl⟩) x]
 by_cases hx:x ∈ d.map (·.1)
 ·rw[yj hx]
 ·rw[yg hx];unfold mgM;rw[zll hx]
theorem zb.look (h:zb w b c){t:TypeId}(ht:prog.underlying t=some (.map 3 3))(hx:(Lit.int .i64 x).wf=true):(Instr.lookup t (.m b) (.i x) false).run prog w=.ok (.i (zJ c x)) w:=by
 rw[h.lookup zdu ht (zeroValue3 w) hx false];unfold zJ;cases mget c x <;> rfl
theorem zY.nodup {κ ν: Type}{enc:κ -> Value}{ok:κ -> Prop}{encv:ν -> Value}{r:Nat}{m left:List (κ × ν)}(h:zY w b r enc ok encv m left):(left.map (·.1)).Nodup:=by
 obtain⟨N,clock,A,a,c,E,G,H,I,J,K,L,D⟩:=h;exact D
theorem mg_step {d cur left l1 l2:List (Int×Int)}{p:Int×Int}(hn:(left.map (·.1)).Nodup)(hl:left=l1++p::l2)(hm:∀ x,mget cur x=if x ∈ left.map (·.1)then mget c x else mgM c d x)(hd:mget d p.1=some p.2)(x:Int) :
  mget (mput cur p.1 (max (zJ cur p.1) p.2)) x=if x ∈ (l1++l2).map (·.1)then mget c x else mgM c d x:=by
 subst hl;have A:p.1 ∉ (l1++l2).map (·.1):=by
  simp only[yat,yT]at hn |-;exact(ya0.1 (List.perm_middle.nodup_iff.1 hn)).1
 rw[xd];by_cases hx:p.1=x
 ·subst hx;rw[yj rfl,yg A];unfold mgM;rw[hd];have:=hm p.1;rw[yj yy]at this;unfold zJ;rw[this]
 ·rw[yg hx,hm x];have e:x ∈ (l1++p::l2).map (·.1)↔x ∈ (l1++l2).map (·.1):=by
   simp only[yat,yT,yu,yW,show(x=p.1)=False from eq_false (fun e=>hx e.symm),false_or]
  simp only[e]
def MgRel (cb db r:Nat)(c d d':List (Int×Int))(w:World)(gk:Nat)(W:World):Prop :=
 ∃ left cur,gk=left.length/\zY W db r intV (fun n=>(Lit.int .i64 n).wf=true) intV d' left/\zb W cb cur/\(∀ x,mget cur x=if x ∈ left.map (·.1)then mget c x else mgM c d x)/\w.grownBy W (some cb)
def zkw (cb:Nat)(c d:List (Int×Int))(w:World)(e:Ending)(w':World):Prop:=e=.e/\zb w' cb (zd9 c d)/\w.grownBy w' (some cb)
theorem zyj (w:World)(cb:Nat)(c:List (Int×Int))(hc:zb w cb c) :
  Calls prog 304 #[.m cb,.map none] w (zkw cb c [] w):=by
 have G:=fun w=>run_range_nilMap (P:=prog) w 252 3 3 underlying252;have E:∀ D,(Instr.next (.p w.heap.size) false D).run prog (w.alloc (.mapIter none 0 #[] 0))=_:=fun D=>run_next_nilMap w D 0 0 #[];have A:=zH (show zkw cb c [] w (.e) (w.alloc (.mapIter none 0 #[] 0))from⟨rfl,hc.qa ((yak _ _ _ hc.lt)),zq5 (yB.alloc yL _) _⟩);clear hc;go_enter func304,ntmps304;go_wp2;refine wp_loop_rounds 1 ?_;rw[rounds_succ];go_wp2;refine ym (yp rfl _ _ _) rfl ?_;exact A.o
theorem zyi (w:World)(cb db:Nat)(c d:List (Int×Int))(hc:zb w cb c)(hd:zb w db d)(hne:cb≠db) :
  Calls prog 304 #[.m cb,.m db] w (zkw cb c d w):=by
 obtain⟨d',S,U⟩:=hd;have HD:=zH S;have N:=zH U;have HC:=zH hc;clear S U hc;go_enter func304,ntmps304;go_wp2_with (at_range;refine zbj ?_);refine zbk ?_;refine zh1 rfl _ _ rfl underlying252 rfl HD.o ?_;intro w1 Y I a1;have ST:=zH (show MgRel cb db w.heap.size c d d' w d'.length w1 from⟨d',c,rfl,Y,HC.o.qa (I.block _ HC.o.lt),fun x=>by
  by_cases hx:x ∈ d'.map (·.1)
  ·rw[yj hx]
  ·rw[yg hx];unfold mgM;rw[<- N.o,zll hx],zq5 I _⟩)
 clear Y I a1
 go_frame
 go_wp2_with fail;go_loopg [] d'.length (fun gk wr=>MgRel cb db w.heap.size c d d' w gk wr)
 case atStart=>exact ST.o
 case round =>
  obtain⟨left,A,hg,hR,H,hm,W⟩:=hrel;have HG:=zH hg;have HR:=zH hR;have HU:=zH H;have HM:=zH hm;have O:=zH W;clear hg hR H hm W;go_wp2_with (at_next;refine zbj ?_);refine zbk ?_;refine zg3 rfl _ rfl rfl HR.o ?_ ?_
  ·intro hl;subst hl;have a0:=zH (show zkw cb c d w (.e) wr from⟨rfl,HU.o.cast fun x=>by rw[HM.o,zrr];simp,O.o⟩);go_wp2_with fail;refine ym (yp rfl _ _ _) rfl ?_;exact a0.o
  ·intro p l1 l2 w2 hl E K a2 a4;have L:(Lit.int .i64 p.1).wf=true:=by
    obtain⟨_,_,_,_,_,h,_⟩:=HD.o;exact h p (HR.o.sub p (by rw[hl];simp))
   have J:zb w2 cb A:=HU.o.qa (K.block _ HU.o.lt (by
    intro e;injection e with e;have:=HC.o.lt;omega))
   have a5:=J.look underlying252 L;obtain⟨w3,Z,G,D,a3⟩:=J.update zdu underlying252 L (max (zJ A p.1) p.2);have R:=zH (show MgRel cb db w.heap.size c d d' w (l1++l2).length w3 from⟨l1++l2,_,rfl,E.qj (D.block _ E.lt.1 (by
    intro e;injection e with e;exact hne e.symm)) (D.block _ E.lt.2 (by
    intro e;injection e with e;have:=HC.o.lt;omega)),G,mg_step (HR.o.nodup) hl HM.o (by
     rw[<- N.o];obtain⟨_,_,_,_,hn,_⟩:=HD.o;exact zea hn (HR.o.sub p (by rw[hl];simp))),zq6 (zq6 O.o K yy) D yy⟩)
   have Q:=zH (show(l1++l2).length<gk by rw[HG.o,hl];simp);clear L J G D a3 E K a2 hl;by_cases a6:zJ A p.1<p.2
   ·rw[show max (zJ A p.1) p.2=p.2 by omega]at Z;go_wp2;go_roundg (l1++l2).length
    case measure=>exact Q.o
    case rel=>exact R.o
   ·rw[show max (zJ A p.1) p.2=zJ A p.1 by omega]at Z;go_wp2;go_roundg (l1++l2).length
    case measure=>exact Q.o
    case rel=>exact R.o
section
def VlOk (nt:Nat):Vl->Prop
 | .num n=>iw n
 | .obj n=>iw n
 | .thr n=>0<=n/\n<(nt:Int)
def ArOk (L:Nat)(a:Ar):Prop:=a.c=false->a.n<L
structure zi4 (P:Pr)(L:Nat)(i:In):Prop where
 x:i.op=1\/i.op=2\/i.op=4\/i.op=5\/i.op=6->0<=i.x
 xl:i.x<(L:Int)
 y:i.op=1\/i.op=13\/i.op=14\/i.op=3\/i.op=4\/i.op=5\/i.op=12->ArOk L i.y
 z:i.op=1->ArOk L i.z
 j:i.op=8->i.y.n<L
 c:i.op=7\/i.op=11->(∀ a ∈ i.args,ArOk L a)/\∃ g,P.fs[i.call]?=some g/\i.args.length<=g.locals
 tgt:i.op=13\/i.op=14\/i.op=20->∃ j,P.code[i.to]?=some j/\j.fn=i.fn
 op:(1<=i.op/\i.op<=14)\/i.op=20
 pl:iw i.place
 vr:iw i.var
 k:iw i.y.n/\iw i.z.n/\∀ a ∈ i.args,iw a.n
structure zu (P:Pr):Prop where
 s:SkipOk P
 ins:∀ (k:Nat) (i:In),P.code[k]?=some i->∃ g,P.fs[i.fn]?=some g/\zi4 P g.locals i
 nx:∀ (k:Nat) (i:In),P.code[k]?=some i->i.op≠12->i.op≠20->∃ j,P.code[k+1]?=some j/\j.fn=i.fn
 fs:∀ (k:Nat) (g:Fu),P.fs[k]?=some g->g.locals<=6/\∃ i,P.code[g.from_]?=some i/\i.fn=k
structure WfFr (P:Pr)(nt:Nat)(f:Fr):Prop where
 at_:∃ i g,P.code[f.at_]?=some i/\P.fs[i.fn]?=some g/\f.qc.length=g.locals
 v:∀ x ∈ f.qc,VlOk nt x
structure WfTh (P:Pr)(nt:Nat)(bd:Int)(h:Th):Prop where
 l:h.qb.length<=6
 e:h.ended=false->h.qb≠[]
 f:∀ f ∈ h.qb,WfFr P nt f
 b:∀ (i:Nat) f g,h.qb[i+1]?=some f->h.qb[i]?=some g->f.back<(g.qc.length:Int)
 c:∀ x n,mget h.clock x=some n->0<=n/\n<=bd
structure WfMb (P:Pr)(b:Int)(M:Mc):Prop where
 n:0<M.qd.length/\M.qd.length<=6
 t:∀ h ∈ M.qd,WfTh P M.qd.length b h
 o:M.qt<=8
 h:∀ s v,mget M.held s=some v->VlOk M.qd.length v
 k:∀ x c,mget M.qq x=some c->∀ y n,mget c y=some n->0<=n/\n<=b
abbrev WfM (P:Pr)(M:Mc):Prop:=WfMb P ((M.steps:Int)+1) M
theorem zmv (w:World)(v:Vl):(Instr.typeAssert (vlV v) 93 256 true).run prog w=.ok (match v with | .num n=>.tuple #[.i n,.bool true] | _=>.tuple #[.i 0,.bool false]) w:=by
 cases v <;> simp[vlV,Instr.typeAssert,run_underlying underlying256,Result.andThen,zeroValue256]
theorem zmw (w:World)(v:Vl):(Instr.typeAssert (vlV v) 93 451 true).run prog w=.ok (match v with | .obj n=>.tuple #[.i n,.bool true] | _=>.tuple #[.i 0,.bool false]) w:=by
 cases v <;> simp[vlV,Instr.typeAssert,run_underlying underlying451,Result.andThen,zeroValue451]
theorem zia (w:World)(v:Vl):(Instr.typeAssert (vlV v) 93 401 true).run prog w=.ok (match v with | .thr n=>.tuple #[.i n,.bool true] | _=>.tuple #[.i 0,.bool false]) w:=by
 cases v <;> simp[vlV,Instr.typeAssert,run_underlying underlying401,Result.andThen,zeroValue401]
section
variable {C:AX} {lab:Lab} {mb:Nat} {M:Mc} {V:MV} {w:World} {t:Nat} {h:Th}
theorem may_any (HC:AXok C)(hW:WfM C.P M)(hK:zu C.P)(g:MSt C lab mb M V w)(ht:M.qd[t]?=some h) :
  Calls prog 164 #[.p mb,.i t] w fun e w'=>e=.r (.bool (mayM C.P M t))/\Below w.heap.size w w':=by
 have U:=hW.t h (yl ht);have m0:w.cell? (.a mb 0)=some (.p C.pb):=g.cells 0;have m1:w.cell? (.a mb 1)=some (.s V.tb M.qd.length V.vd):=g.cells 1;have m2:w.cell? (.a mb 2)=some (.m V.hb):=g.cells 2;have m3:w.cell? (.a mb 3)=some (.i M.qt):=g.cells 3;have m4:w.cell? (.a mb 4)=some (.m V.ob):=g.cells 4;have m5:w.cell? (.a mb 5)=some (.m V.kb):=g.cells 5;have m6:w.cell? (.a mb 6)=some (.m V.ub):=g.cells 6;have m7:w.cell? (.a mb 7)=some (.m V.rb):=g.cells 7;have m8:w.cell? (.a mb 8)=some (.i M.steps):=g.cells 8;obtain⟨v0,a4⟩:∃ v,V.tl[t]?=some v:=⟨_,yc (by rw[g.mi.n];exact(yh.1 ht).1)⟩;have t1:w.cell? (.a V.tb (t*3+1))=some (.bool h.ended):=zfi g.mi ht a4 1 yo;have tl:t<M.qd.length:=(yh.1 ht).1;cases he:h.ended
 ·obtain⟨f,hl⟩:∃ f,h.qb.getLast? = some f:=by
   cases hf:h.qb.getLast? with
   | none=>exact absurd (List.getLast?_eq_none_iff.1 hf) (U.e he)
   | some f=>exact⟨f,rfl⟩
  obtain⟨n,v,fg,fc,lv,p⟩:=g.topP ht hl;have T:=p.top g;have hn:(h.qb.length:Int)-1=(n:Int):=yq p.hn;have a7:n<h.qb.length:=yq p.hn;have aj:wrap64 (n:Int)=(n:Int):=zki T.T.r (yaw a7);have a8:=U.f f (yl p.hf);obtain⟨i,fu,hi,a6,a3⟩:=a8.at_;obtain⟨_,J,Q⟩:=hK.ins _ i hi;rw[a6]at J;injection J with J;subst J;rw[<- a3]at Q;have t0:=T.t0;have f0:=T.f0;obtain⟨la,lc,rfl⟩:=zZ T.F.r;have f1:=T.f1;have f2:=T.f2;have H:=g.alloc (.k #[.i f.at_,.slice la f.qc.length lc,.i f.back] 250);have E:Blk (w.alloc (.k #[.i f.at_,.slice la f.qc.length lc,.i f.back] 250)) w.heap.size 250 #[.i f.at_,.slice la f.qc.length lc,.i f.back]:=Blk.newAt rfl;have G:Below w.heap.size w (w.alloc (.k #[.i f.at_,.slice la f.qc.length lc,.i f.back] 250)):=yB.alloc yL _;have G2:=zH (And.intro H (And.intro E G));clear H E G;have Z:mayM C.P M t=(if i.op=9 then(mget M.owner i.var).isNone else if i.op=8 then(match f.qc.getD i.y.n (.num 0)with | .thr v=>(match M.qd[v.toNat]? with | some u=>u.ended | none=>false) | _=>true)else true):=by
   unfold mayM;rw[ht];simp only[he,hl,hi];rfl
  have A:=zH Z;rw[he]at t1;have HF:=zH (And.intro hi (And.intro Q p));have az:=zH a3;have ab:=zH hW;clear hi a6 Q a8 p T g U Z hl he ht a4 a3 m0 m2 m3 m4 m5 m6 m7 m8 hW hK;go_enter func164,ntmps164;go_wp2_with fail;obtain⟨H,E,G⟩:=G2.o;clear G2 t0 t1 f0 f1 f2 m1 aj hn a7;obtain⟨fb,a1⟩:∃ fb,fb=w.heap.size:=⟨_,rfl⟩;rw[<- a1]at E |-;have ay:=zH a1;clear a1;generalize w.alloc (.k #[.i f.at_,.slice la f.qc.length lc,.i f.back] 250)=w2 at H E G |-;obtain⟨hi,Q,p⟩:=HF.o;have m0:w2.cell? (.a mb 0)=some (.p C.pb):=H.cells 0;have m1:w2.cell? (.a mb 1)=some (.s V.tb M.qd.length V.vd):=H.cells 1;have m2:w2.cell? (.a mb 2)=some (.m V.hb):=H.cells 2;have m3:w2.cell? (.a mb 3)=some (.i M.qt):=H.cells 3;have m4:w2.cell? (.a mb 4)=some (.m V.ob):=H.cells 4;have m5:w2.cell? (.a mb 5)=some (.m V.kb):=H.cells 5;have m6:w2.cell? (.a mb 6)=some (.m V.ub):=H.cells 6;have m7:w2.cell? (.a mb 7)=some (.m V.rb):=H.cells 7;have m8:w2.cell? (.a mb 8)=some (.i M.steps):=H.cells 8;have ae:w2.cell? (.a fb 0)=some (.i f.at_):=E.cell 0;have af:w2.cell? (.a fb 1)=some (.slice la f.qc.length lc):=E.cell 1;obtain⟨W,Y,D,_,b2⟩:=HC.ql H.on hi;have i0:w2.cell? (.a C.cg (f.at_*14))=some (.i i.op):=D 0 yo;have i1:w2.cell? (.a C.cg (f.at_*14+1))=some (.i i.place):=D 1 yo;have i2:w2.cell? (.a C.cg (f.at_*14+2))=some (.i i.fn):=D 2 yo;have i3:w2.cell? (.a C.cg (f.at_*14+3))=some (.i i.x):=D 3 yo;have i4:w2.cell? (.a C.cg (f.at_*14+4))=some (.bool i.y.c):=D 4 yo;have i5:w2.cell? (.a C.cg (f.at_*14+5))=some (.i i.y.n):=D 5 yo;have i6:w2.cell? (.a C.cg (f.at_*14+6))=some (.bool i.z.c):=D 6 yo;have i7:w2.cell? (.a C.cg (f.at_*14+7))=some (.i i.z.n):=D 7 yo;have i8:w2.cell? (.a C.cg (f.at_*14+8))=some (.i i.bin):=D 8 yo;have i9:w2.cell? (.a C.cg (f.at_*14+9))=some (.i i.var):=D 9 yo;have aq:w2.cell? (.a C.cg (f.at_*14+10))=some (.i i.site):=D 10 yo;have au:w2.cell? (.a C.cg (f.at_*14+11))=some (.i i.call):=D 11 yo;have aw:w2.cell? (.a C.cg (f.at_*14+12))=some (.slice W i.args.length Y):=D 12 yo;have ax:w2.cell? (.a C.cg (f.at_*14+13))=some (.i i.to):=D 13 yo;have hp:w2.cell? (.a C.pb 4)=some (.s C.cg C.P.code.length C.ccap):=HC.vt H.on 4;have G2:=zH H;have HB:=zH (And.intro E G);have ah:fb<w2.heap.size:=E.lt;have ai:mb<w2.heap.size:=zaq m0;have ak:C.pb<w2.heap.size:=zaq hp;have ag:C.cg<w2.heap.size:=zaq i0;clear H E G hi Q p D;go_region;obtain⟨H,E,G⟩:=And.intro G2.o HB.o;have I:=(H.alloc (.k (.j i (.slice W i.args.length Y)) 309)).drew;have L:Blk (w2.alloc (.k (.j i (.slice W i.args.length Y)) 309)).drew w2.heap.size 309 (.j i (.slice W i.args.length Y)):=Blk.newAt rfl;have a0:Blk (w2.alloc (.k (.j i (.slice W i.args.length Y)) 309)).drew fb 250 #[.i f.at_,.slice la f.qc.length lc,.i f.back]:=E.alloc _;have a5:Below w.heap.size w (w2.alloc (.k (.j i (.slice W i.args.length Y)) 309)).drew:=(G.alloc G.size _).drew;clear G2 HB ae af ah ai ak ag hp m0 m1 m2 m3 m4 m5 m6 m7 m8 i0 i1 i2 i3 i4 i5 i6 i7 i8 i9 aq au aw ax H E G;obtain⟨xb,a9⟩:∃ xb,xb=w2.heap.size:=⟨_,rfl⟩;rw[<- a9]at L |-;clear a9;change Exit.then _ _ _ _ ((w2.alloc (.k (.j i (.slice W i.args.length Y)) 309)).drew)
  generalize (w2.alloc (.k (.j i (.slice W i.args.length Y)) 309)).drew=w3 at I L a0 a5 |-;have m0:w3.cell? (.a mb 0)=some (.p C.pb):=I.cells 0;have m1:w3.cell? (.a mb 1)=some (.s V.tb M.qd.length V.vd):=I.cells 1;have m2:w3.cell? (.a mb 2)=some (.m V.hb):=I.cells 2;have m3:w3.cell? (.a mb 3)=some (.i M.qt):=I.cells 3;have m4:w3.cell? (.a mb 4)=some (.m V.ob):=I.cells 4;have m5:w3.cell? (.a mb 5)=some (.m V.kb):=I.cells 5;have m6:w3.cell? (.a mb 6)=some (.m V.ub):=I.cells 6;have m7:w3.cell? (.a mb 7)=some (.m V.rb):=I.cells 7;have m8:w3.cell? (.a mb 8)=some (.i M.steps):=I.cells 8;have x0:w3.cell? (.a xb 0)=some (.i i.op):=L.cell 0;have x5:w3.cell? (.a xb 5)=some (.i i.y.n):=L.cell 5;have x9:w3.cell? (.a xb 9)=some (.i i.var):=L.cell 9;have b1:w3.cell? (.a fb 1)=some (.slice la f.qc.length lc):=a0.cell 1;have HG:=zH I;have N:=zH a5;clear m2 m3 m5 m6 m7 m8 L a0 a5;by_cases h9:i.op=9
  ·have o9:((i.op:Int)==9)=true:=by rw[h9];rfl
   have A:=zH (A.o.trans (yj h9));have ad:=zH (show ∃ (z:Int) (b:Bool),b=(mget M.owner (i.var:Int)).isSome/\(Instr.lookup 241 (.m V.ob) (.i i.var) true).run prog w3.drew=.ok (.tuple #[.i z,.bool b]) w3.drew from by
    have R:=I.mi.o.drew.lookup zdu underlying241 (zeroValue3 w3.drew) (wfI HF.o.2.1.vr) true;cases hO:mget M.owner (i.var:Int)with
    | none=>exact⟨0,false,rfl,by rw[R,hO];rfl⟩
    | some z=>exact⟨z,true,rfl,by rw[R,hO];rfl⟩)
   obtain⟨z,b,hb,R⟩:=ad.o;have HM:=zH (show mayM C.P M t=!b by rw[A.o,hb];cases mget M.owner (i.var:Int) <;> rfl)
   clear I h9 m1 hb;go_wp2_with fail;refine rgl 11 (fun(W':World)=>W'.cell? (.a mb 4)=some (.m V.ob)/\W'.cell? (.a xb 9)=some (.i i.var)/\(Instr.lookup 241 (.m V.ob) (.i i.var) true).run prog W'=.ok (.tuple #[.i z,.bool b]) W') ?_;have O:=And.intro (show w3.drew.cell? (.a mb 4)=some (.m V.ob)from m4) (And.intro (show w3.drew.cell? (.a xb 9)=some (.i i.var)from x9) R)
   iterate 11(refine tK 0 rfl O ?_)
   refine lst rfl fun K hK=>?_;go_simp;refine hK _ _ ?_;clear hK K O R;go_wp2;go_ret;exact⟨by rw[HM.o];rfl,N.o.drew⟩
  ·have o9:((i.op:Int)==9)=false:=zI yo;have A:=zH (A.o.trans (yg h9));clear h9;by_cases h8:i.op=8
   ·have o8:((i.op:Int)==8)=true:=by rw[h8];rfl
    have an:i.y.n<f.qc.length:=HF.o.2.1.j h8;have p:=HF.o.2.2;have T:=p.top I;have hr:=T.F.r;obtain⟨lg,b4,a2,_,_⟩:=hr.form yo;injection a2 with a2;subst a2;obtain⟨x,hx⟩:∃ x,f.qc[i.y.n]?=some x:=⟨_,yc an⟩;have hc:=zlg hr hx;have A:=zH (A.o.trans ((yj h8).trans (by rw[show f.qc.getD i.y.n (.num 0)=x by simp[List.getD,hx]])));clear h8 T p hr;cases x with
    | num z =>
     clear I;have S:=zia w3 (.num z);simp only[vlV]at hc S;go_wp2;go_ret;exact⟨by rw[A.o];rfl,N.o⟩
    | obj z =>
     clear I;have S:=zia w3 (.obj z);simp only[vlV]at hc S;go_wp2;go_ret;exact⟨by rw[A.o];rfl,N.o⟩
    | thr z =>
     have hz:VlOk M.qd.length (.thr z):=(ab.o.t h (yl HF.o.2.2.ht)).f f (yl HF.o.2.2.hf) |>.v _ (yl hx);obtain⟨ao,ap⟩:=hz;obtain⟨k,rfl⟩:∃ k:Nat,z=(k:Int):=⟨z.toNat,by omega⟩;have hk:k<M.qd.length:=yo;obtain⟨u,hu⟩:∃ u,M.qd[k]?=some u:=⟨_,yc hk⟩;obtain⟨uv,am⟩:∃ v,V.tl[k]?=some v:=⟨_,yc (by rw[I.mi.n];exact hk)⟩;have b3:w3.cell? (.a V.tb (k*3+1))=some (.bool u.ended):=zfi I.mi hu am 1 yo;have S:=zia w3 (.thr k);simp only[vlV]at hc S;have HM:=zH (A.o.trans (by simp[hu]:_=u.ended));clear I ao ap;go_wp2;go_ret;exact⟨by rw[HM.o];rfl,N.o⟩
   ·have o8:((i.op:Int)==8)=false:=zI yo;have A:=zH (A.o.trans (yg h8));clear I h8;go_wp2;go_ret;exact⟨by rw[A.o];rfl,N.o⟩
 ·have hM:mayM C.P M t=false:=by unfold mayM;rw[ht];simp[he]
  rw[hM];rw[he]at t1;clear hM he a4 U hW hK ht g;go_enter func164,ntmps164;go_wp2;go_ret;exact⟨rfl,yn _ _⟩
end
end
section
theorem zdj {i:Nat}(h:i<1000000):wrap64 ((i:Int)+1)=((i+1:Nat):Int):=by rw[IntWalk.wrap64_in _ yo];omega
theorem zs5 (P:Pr)(M:Mc)(i:Nat):(List.range (i+1)).filter (mayM P M)=(List.range i).filter (mayM P M)++(if mayM P M i then [i]else []):=by
 rw[List.range_succ,yb7];congr 1;cases h:mayM P M i <;> simp[h]
def RdRel (C:AX)(M:Mc)(w:World)(gk:Nat)(v3 v10:Value)(W:World):Prop :=
 ∃ (i:Nat) (va:Option Addr) (vc:Nat),v10=.i i/\v3=.slice va ((List.range i).filter (mayM C.P M)).length vc/\gk=M.qd.length-i/\i<=M.qd.length /\
  W.ownsRow w.heap.size 3 1 v3 ((List.range i).filter (mayM C.P M)).length (ints ((List.range i).filter (mayM C.P M)))/\(((List.range i).filter (mayM C.P M)).length=0->v3=.z)/\Below w.heap.size w W
section
variable {C:AX} {lab:Lab} {mb:Nat} {M:Mc} {V:MV} {w:World}
theorem zs3 (HC:AXok C)(hW:WfM C.P M)(hK:zu C.P)(g:MSt C lab mb M V w) :
  Calls prog 118 #[.p mb] w (zad w (zex C.P M)):=by
 have m1:w.cell? (.a mb 1)=some (.s V.tb M.qd.length V.vd):=g.cells 1;have ST:=zH (show RdRel C M w M.qd.length (.z) (.i 0) w from⟨0,none,0,rfl,rfl,rfl,yD _,yA _ _ _ _,fun _=>rfl,yn _ _⟩);have G:=zH g;have HT6:=zH hW.n.2;have Y:=zH hW;clear g hW;go_enter func118,ntmps118;go_wp2_with fail;clear m1;go_loopg [3,10] M.qd.length (fun gk v3 v10 wr=>RdRel C M w gk v3 v10 wr)
 case atStart=>exact ST.o
 case round =>
  obtain⟨i,O,Q,rfl,rfl,hg,hi,hr,h0,Z⟩:=hrel;have HG:=zH hg;have W:=zH hr;have H0:=zH h0;have S:=zH Z;have GR:=zH (G.o.below Z);clear hg hr h0 Z;by_cases J:i<M.qd.length
  ·obtain⟨h,hh⟩:∃ h,M.qd[i]?=some h:=⟨_,yc J⟩;have HM:=zH (may_any HC Y.o hK GR.o hh);clear hh;go_wp2_with fail;refine HM.o.mono ?_;rintro e w2 ⟨rfl,I⟩;have A:=zH (S.o.trans (I.mono S.o.size));have H:=zH (show w2.ownsRow w.heap.size 3 1 (.slice O ((List.range i).filter (mayM C.P M)).length Q) ((List.range i).filter (mayM C.P M)).length (ints ((List.range i).filter (mayM C.P M)))from zn W.o fun k e=>I.block k (W.o.lt k e).2);clear I;cases hm:mayM C.P M i
   ·have E:=zH (show(List.range (i+1)).filter (mayM C.P M)=(List.range i).filter (mayM C.P M) by rw[zs5,hm];simp);have REL:=zH (show RdRel C M w (M.qd.length-(i+1)) (.slice O ((List.range i).filter (mayM C.P M)).length Q) (.i ((i+1:Nat):Int)) w2 from⟨i+1,O,Q,rfl,by rw[E.o],rfl,J,by rw[E.o];exact H.o,by rw[E.o];exact H0.o,A.o⟩);clear hm;exact mUc
   ·have E:=zH (show(List.range (i+1)).filter (mayM C.P M)=(List.range i).filter (mayM C.P M)++[i] by rw[zs5,hm];simp);have U:=zH (show((List.range i).filter (mayM C.P M)).length<=i by have:=ycf (mayM C.P M) (List.range i);simpa using this);clear hm;go_wp2_with (refine ze2 zhx rfl _ _ rfl w.heap.size _ ((List.range i).filter (mayM C.P M)).length (ints ((List.range i).filter (mayM C.P M))) w2.heap.size _ _ (H.o.alloc _) (Blk.newAt rfl) rfl rfl rfl yE (yw U.o HT6.o) (by have:=A.o.size;simp;omega) ?_;intro g5 c5 w5 D N K);have L:Below w.heap.size w w5:=(A.o.alloc A.o.size _).grown N (by have:=A.o.size;simp;omega) (fun k e=>(H.o.lt k e).1);have REL:=zH (show RdRel C M w (M.qd.length-(i+1)) (.s g5 (((List.range i).filter (mayM C.P M)).length+1) c5) (.i ((i+1:Nat):Int)) w5 from⟨i+1,some (.a g5 0),c5,rfl,by rw[E.o];simp,rfl,J,by rw[E.o];simpa [ints] using D,fun h=>by rw[E.o]at h;simp at h,L⟩);clear L D N K;exact mUc
  ·obtain rfl:i=M.qd.length:=yo;have R:=zH (show zad w (zex C.P M) (.r (.slice O ((List.range M.qd.length).filter (mayM C.P M)).length Q)) wr from⟨_,rfl,W.o,H0.o,S.o⟩);go_wp2;go_ret;exact R.o
end
end
section
def za7 (e:Evn):Array Value:=#[.i e.qw,.i e.kind,.i e.place,.i e.obj,.i e.field,vlV e.val,.bool e.ended]
structure St (C:AX)(mb eb:Nat)(lab0:Lab)(w0:World)(lab:Lab)(M:Mc)(V:MV)(e:Evn)(w:World):Prop where
 g:MSt C lab mb M V w
 b:Blk w eb 95 (za7 e)
 o:Out lab0 eb w0 w
 l:∀ k,k<w0.heap.size->lab k=lab0 k
 eo:lab eb=.out
 ew:C.w0.heap.size<=eb
structure WfD (P:Pr)(M:Mc)(h:Th)(f:Fr)(i:In):Prop where
 n:M.qd.length<=6
 s:M.steps<4000000000000000000
 o:M.qt<=8
 l:h.qb.length<=6
 c:∀ x n,mget h.clock x=some n->0<=n/\n<=(M.steps:Int)+1
 io:zi4 P f.qc.length i
 v:∀ x ∈ f.qc,VlOk M.qd.length x
 b:∀ (k:Nat) f1 g,h.qb[k+1]?=some f1->h.qb[k]?=some g->f1.back<(g.qc.length:Int)
def zdk (C:AX)(mb eb:Nat)(lab0:Lab)(w0:World)(M:Mc)(V:MV)(r:Option (Mc×Evn))(x:Ending)(w:World):Prop:=match r with
 | none=>x=.r (.bool false)/\∃ e,St C mb eb lab0 w0 lab0 M V e w
 | some (M',e)=>x=.r (.bool true)/\∃ lab V',St C mb eb lab0 w0 lab M' V' e w
section
variable {C:AX} {mb eb:Nat} {lab0 lab:Lab} {w0 w w':World} {M M':Mc} {V V':MV} {e:Evn} {t n fg fc k:Nat} {f:Fr} {h:Th} {v:TV} {lv:Value} {i:In}
theorem St.below (s:St C mb eb lab0 w0 lab M V e w)(hb:Below w.heap.size w w'):St C mb eb lab0 w0 lab M V e w' :=
 ⟨s.g.below hb,s.b.below hb s.b.lt,s.o.below hb yL,s.l,s.eo,s.ew⟩
theorem St.drewN (s:St C mb eb lab0 w0 lab M V e w)(n:Nat):St C mb eb lab0 w0 lab M V e (w.drewN n):=⟨s.g.drewN n,s.b,s.o.drewN n,s.l,s.eo,s.ew⟩
theorem St.drew (s:St C mb eb lab0 w0 lab M V e w):St C mb eb lab0 w0 lab M V e w.drew:=⟨s.g.drew,s.b,s.o.drew,s.l,s.eo,s.ew⟩
theorem St.alloc (s:St C mb eb lab0 w0 lab M V e w)(o:Obj):St C mb eb lab0 w0 lab M V e (w.alloc o):=s.below (yB.alloc yL _)
theorem St.ev (s:St C mb eb lab0 w0 lab M V e w)(j:Nat)(u:Value){e':Evn}(he:za7 e'=(za7 e).setIfInBounds j u):St C mb eb lab0 w0 lab M V e' (w.setCell (.a eb j) u) :=
 ⟨s.g.qi (p:=(.a eb j)) s.eo s.ew u,by rw[he];exact s.b.qe j u,s.o.qe (.inr (.inl rfl)) u,s.l,s.eo,s.ew⟩
theorem St.vk (s:St C mb eb lab0 w0 lab M V e w)(hg:w.grownBy w' (some b))(hl:lab b≠.out)(h:MSt C lab mb M' V' w'):St C mb eb lab0 w0 lab M' V' e w':=by
 refine⟨h,s.b.grown hg (by intro e;injection e with e;subst e;exact hl s.eo),?_,s.l,s.eo,s.ew⟩;refine s.o.grown hg fun k A=>?_;injection A with A;subst A;rcases yF b w0.heap.size with hb | hb
 ·left;rw[<- s.l b hb];exact hl
 ·exact .inr (.inr hb)
theorem MSt.st (g:MSt C lab mb M V w)(hb:Blk w eb 95 (za7 e))(eo:lab eb=.out)(ew:C.w0.heap.size<=eb):St C mb eb lab w lab M V e w:=⟨g,hb,Out.refl _ _ _,fun _ _=>rfl,eo,ew⟩
theorem St.atS (s:St C mb eb lab0 w0 lab M V e w)(p:TopP M V t h f n v fg fc lv)(a:Nat):St C mb eb lab0 w0 lab (zQ M t h { f with at_:=a }) V e (w.setCell (.a fg (n*3)) (.i a)) :=
 s.vk (b:=fg) (zey _ _ _) (by rw[(p.top s.g).l];simp) (s.g.atS p a).1
theorem MSt.locS {x:Nat}{y:Vl}(g:MSt C lab mb M V w)(p:TopP M V t h f n v fg fc lv)(hu:lv=.s lg f.qc.length lc):MSt C lab mb (zQ M t h { f with qc:=f.qc.set x y }) V (w.setCell (.a lg x) (vlV y)):=by
 have T:=p.top g;have hl:lab lg=.locs t n:=T.F.l lg (by rw[hu];rfl);refine g.vk (b:=lg) (zey _ _ _) hl yy fun A=>?_;have:=g.mi.locE (y:=y) p.ht p.hv p.hf p.hlv hu A;unfold zQ;rw[p.topSet_eq];exact this
theorem St.locS {x:Nat}{y:Vl}(s:St C mb eb lab0 w0 lab M V e w)(p:TopP M V t h f n v fg fc lv)(hu:lv=.s lg f.qc.length lc):St C mb eb lab0 w0 lab (zQ M t h { f with qc:=f.qc.set x y }) V e (w.setCell (.a lg x) (vlV y)) :=
 s.vk (b:=lg) (zey _ _ _) (by rw[(p.top s.g).F.l lg (by rw[hu];rfl)];simp) (s.g.locS p hu)
theorem St.locI {y:Vl}(s:St C mb eb lab0 w0 lab M V e w)(p:TopP M V t h f n v fg fc lv)(hu:lv=.s lg f.qc.length lc):St C mb eb lab0 w0 lab (zQ M t h (xc f x y)) V e (w.setCell (.a lg x.toNat) (vlV y)) :=
 s.locS p hu
structure LocP (w:World)(f:Fr)(lv:Value)(lg lc:Nat):Prop where
 u:lv=.s lg f.qc.length lc
 c:∀ j x,f.qc[j]?=some x->w.cell? (.a lg j)=some (vlV x)
 z:∀ j,w.frozen? (.a lg j)=false
 l:lg<w.heap.size
theorem Top.locP {lab:Lab}(T:Top w lab M V t h f n v fg fc lv)(hl:0<f.qc.length):∃ E lc,LocP w f lv E lc:=by
 obtain⟨E,lc,hu,_,A⟩:=T.F.r.form hl;have D:=T.F.r;rw[hu]at D;exact⟨E,lc,hu,fun j x hx=>zlg D hx,zhs D,A⟩
theorem ic0 (HC:AXok C)(s:St C mb eb lab0 w0 lab M V e w)(hi:C.P.code[k]?=some i):w.cell? (.a C.cg (k*14))=some (.i i.op):=by obtain⟨_,_,h,_⟩:=HC.ql s.g.on hi;exact h 0 yo
theorem ic1 (HC:AXok C)(s:St C mb eb lab0 w0 lab M V e w)(hi:C.P.code[k]?=some i):w.cell? (.n C.cg k 1)=some (.i i.place):=by obtain⟨_,_,h,_⟩:=HC.ql s.g.on hi;exact h 1 yo
theorem ic3 (HC:AXok C)(s:St C mb eb lab0 w0 lab M V e w)(hi:C.P.code[k]?=some i):w.cell? (.n C.cg k 3)=some (.i i.x):=by obtain⟨_,_,h,_⟩:=HC.ql s.g.on hi;exact h 3 yo
theorem ic4 (HC:AXok C)(s:St C mb eb lab0 w0 lab M V e w)(hi:C.P.code[k]?=some i):w.cell? (.n C.cg k 4)=some (.bool i.y.c):=by obtain⟨_,_,h,_⟩:=HC.ql s.g.on hi;exact h 4 yo
theorem ic5 (HC:AXok C)(s:St C mb eb lab0 w0 lab M V e w)(hi:C.P.code[k]?=some i):w.cell? (.n C.cg k 5)=some (.i i.y.n):=by obtain⟨_,_,h,_⟩:=HC.ql s.g.on hi;exact h 5 yo
theorem ic6 (HC:AXok C)(s:St C mb eb lab0 w0 lab M V e w)(hi:C.P.code[k]?=some i):w.cell? (.n C.cg k 6)=some (.bool i.z.c):=by obtain⟨_,_,h,_⟩:=HC.ql s.g.on hi;exact h 6 yo
theorem ic7 (HC:AXok C)(s:St C mb eb lab0 w0 lab M V e w)(hi:C.P.code[k]?=some i):w.cell? (.n C.cg k 7)=some (.i i.z.n):=by obtain⟨_,_,h,_⟩:=HC.ql s.g.on hi;exact h 7 yo
theorem ic8 (HC:AXok C)(s:St C mb eb lab0 w0 lab M V e w)(hi:C.P.code[k]?=some i):w.cell? (.n C.cg k 8)=some (.i i.bin):=by obtain⟨_,_,h,_⟩:=HC.ql s.g.on hi;exact h 8 yo
theorem ic9 (HC:AXok C)(s:St C mb eb lab0 w0 lab M V e w)(hi:C.P.code[k]?=some i):w.cell? (.n C.cg k 9)=some (.i i.var):=by obtain⟨_,_,h,_⟩:=HC.ql s.g.on hi;exact h 9 yo
theorem ic11 (HC:AXok C)(s:St C mb eb lab0 w0 lab M V e w)(hi:C.P.code[k]?=some i):w.cell? (.n C.cg k 11)=some (.i i.call):=by obtain⟨_,_,h,_⟩:=HC.ql s.g.on hi;exact h 11 yo
theorem ic13 (HC:AXok C)(s:St C mb eb lab0 w0 lab M V e w)(hi:C.P.code[k]?=some i):w.cell? (.n C.cg k 13)=some (.i i.to):=by obtain⟨_,_,h,_⟩:=HC.ql s.g.on hi;exact h 13 yo
theorem icl (HC:AXok C)(s:St C mb eb lab0 w0 lab M V e w)(hi:C.P.code[k]?=some i):C.cg<w.heap.size:=zaq (ic0 HC s hi)
theorem St.fz (s:St C mb eb lab0 w0 lab M V e w):∀ j,w.frozen? (.a eb j)=false:=s.b.frozen
theorem za3 (y:Vl):∃ T z,vlV y=.iface T (.i z):=by cases y <;> exact⟨_,_,rfl⟩
theorem znb (w:World)(t:TypeId)(hc:(prog.info? t).map (·.comparable)=some true)(hx:prog.underlying t=some (.int .i64))(a b:Int){p:Prop} [Decidable p] (hp:p↔a=b):(binOp .eql 93 (.iface t (.i a)) (.iface t (.i b))).run prog w=.ok (.bool (decide p)) w:=by
 rw[Lib.run_eql_iface_int w a b underlying93 hc hx];have:(a==b)=decide p:=by by_cases h:a=b <;> simp[h,hp]
 rw[this]
theorem eql_vl (w:World)(a b:Vl):(binOp .eql 93 (vlV a) (vlV b)).run prog w=.ok (.bool (decide (a=b))) w:=by
 have hu:=underlying93;have ne:∀ A D E G (p:Prop) [Decidable p],A≠D->¬p->(binOp .eql 93 (.iface A E) (.iface D G)).run prog w=.ok (.bool (decide p)) w:=fun A D E G p _ h H=>by rw[run_eql_iface_types _ _ _ _ hu h,decide_eq_false H]
 match a,b with
 | .num a,.num b=>exact znb w _ yk underlying256 a b yy
 | .obj a,.obj b=>exact znb w _ yk underlying451 a b yy
 | .thr a,.thr b=>exact znb w _ yk underlying401 a b yy
 | .num a,.obj b=>exact ne _ _ _ _ _ yd yy
 | .num a,.thr b=>exact ne _ _ _ _ _ yd yy
 | .obj a,.num b=>exact ne _ _ _ _ _ yd yy
 | .obj a,.thr b=>exact ne _ _ _ _ _ yd yy
 | .thr a,.num b=>exact ne _ _ _ _ _ yd yy
 | .thr a,.obj b=>exact ne _ _ _ _ _ yd yy
end
section
variable {C:AX} {mb eb:Nat} {lab:Lab} {w:World} {M:Mc} {V:MV} {e:Evn} {t n fg fc k:Nat} {f:Fr} {h:Th} {v:TV} {lv:Value} {i:In}
theorem test_do (HC:AXok C)(s:St C mb eb lab w lab M V e w)(p:TopP M V t h f n v fg fc lv)(hi:C.P.code[k]?=some i)(W:WfD C.P M h f i)(ho:i.op=13\/i.op=14) :
  Calls prog 251 #[.p mb,.i t,.q fg (n*3),.q C.cg (k*14),.p eb] w
   (zdk C mb eb lab w M V (doM C.P M t h f i e)):=by
 obtain⟨R,L⟩:∃ R,doM C.P M t h f i e=R:=⟨_,rfl⟩;rw[L];have Q:=zH (show R=some (if valM f i.y=.num 0 then zQ M t h { f with at_:=i.to } else M,{ e with val:=valM f i.y }) by
  rw[<- L];unfold doM;rw[yg yo,yj ho])
 have T:=p.top s.g;have HV:=zH (zhz w fg (n*3) i.y f lv T.f1 T.F.r (W.io.y yo));have i4:=ic4 HC s hi;have i5:=ic5 HC s hi;have S:=zH s;have Z:=zH hi;have U:=zH p;clear L T W ho s hi p;go_enter func251,ntmps251;go_wp2_with fail;refine HV.o.mono ?_;rintro x Y ⟨rfl,E⟩;have H:=zH (S.o.below E);obtain⟨ty,z,N⟩:=za3 (valM f i.y);have HY:=zH N;have D:=zH (H.o.ev 5 (vlV (valM f i.y)) (e':={ e with val:=valM f i.y }) rfl);obtain⟨O,z0,G⟩:=za3 e.val;have e5:Y.cell? (.a eb 5)=some (.iface O (.i z0)):=(H.o.b.cell 5).trans (by rw[<- G];rfl);have ez:=H.o.fz;have el:=H.o.b.lt;have I:=eql_vl (Y.setCell (.a eb 5) (vlV (valM f i.y))) (valM f i.y) (.num 0);rw[N]at D I |-;simp only[vlV]at I;clear E i4 i5 N G;by_cases A:valM f i.y=.num 0
 ·have K:=zH (Q.o.trans (by rw[yj A]));rw[decide_eq_true A]at I;have T:=U.o.top D.o.g;have f0:=T.f0;have fz:=T.fz;have fl:=T.fl;have a0:=ic13 HC D.o Z.o;have J:=zH (D.o.atS U.o i.to);clear T A;go_wp2;go_ret;rw[K.o];exact⟨rfl,lab,V,J.o⟩
 ·have K:=zH (Q.o.trans (by rw[yg A]));rw[decide_eq_false A]at I;clear A;go_wp2;go_ret;rw[K.o];exact⟨rfl,lab,V,D.o⟩
end
end
section
theorem zsm (y:Vl):∃ T z a one,vlV y=.iface T (.i z)/\(∀ w,(Instr.typeAssert (.iface T (.i z)) 93 256 true).run prog w=.ok (.tuple #[.i a,.bool one]) w)/\(one=true->y=.num a)/\(one=false->∀ n,y≠.num n):=by
 cases y with
 | num n=>exact⟨_,n,n,true,rfl,fun w=>zmv w (.num n),fun _=>rfl,fun h=>(by cases h)⟩
 | obj n=>exact⟨_,n,0,false,rfl,fun w=>zmv w (.obj n),fun h=>(by cases h),fun _ _ h=>by cases h⟩
 | thr n=>exact⟨_,n,0,false,rfl,fun w=>zmv w (.thr n),fun h=>(by cases h),fun _ _ h=>by cases h⟩
theorem zvm {y:Int}(h:b≠0):binM b (.num x) (.num y)=some (if b=1 then .num (IntKind.i64.wrap (x+y))else if b=2 then .num (IntKind.i64.wrap (x-y))else if b=3 then zdh (decide (x<y))else zdh (decide (Vl.num x=Vl.num y))):=by
 unfold binM;rw[yg h];simp
theorem zvl (v w:Vl):binM 4 v w=some (zdh (decide (v=w))):=by
 unfold binM;cases v <;> cases w <;> simp
theorem zpv {v w:Vl}(h:b≠0)(h4:b≠4)(hn:(∀ n,v≠.num n)\/∀ n,w≠.num n):binM b v w=none:=by
 unfold binM;rw[yg h];cases v <;> cases w <;> simp_all
theorem wrapE (x:Int):wrap64 x=IntKind.i64.wrap x:=by rw[IntKind.wrap_i64];unfold wrap64;rfl
section
variable {C:AX} {mb eb:Nat} {lab:Lab} {w:World} {M:Mc} {V:MV} {e:Evn} {t n fg fc k:Nat} {f:Fr} {h:Th} {v:TV} {lv:Value} {i:In}
theorem set_do (HC:AXok C)(s:St C mb eb lab w lab M V e w)(p:TopP M V t h f n v fg fc lv)(hi:C.P.code[k]?=some i)(W:WfD C.P M h f i)(ho:i.op=1) :
  Calls prog 250 #[.p mb,.i t,.q fg (n*3),.q C.cg (k*14),.p eb] w
   (zdk C mb eb lab w M V (doM C.P M t h f i e)):=by
 obtain⟨R,hR⟩:∃ R,doM C.P M t h f i e=R:=⟨_,rfl⟩;rw[hR];have G:=zH (show R=(match binM i.bin (valM f i.y) (valM f i.z)with | none=>none | some v=>some (zQ M t h (xc f i.x v),{ e with val:=v })) by
  rw[<- hR];unfold doM;rw[yj ho] <;> (cases binM i.bin (valM f i.y) (valM f i.z) <;> rfl))
 have T:=p.top s.g;have HV:=zH (zhz w fg (n*3) i.y f lv T.f1 T.F.r (W.io.y yo));have i4:=ic4 HC s hi;have i5:=ic5 HC s hi;have S:=zH s;have J:=zH hi;have HP:=zH p;have HX:=zH (And.intro (W.io.x yo) W.io.xl);have HZ:=zH (W.io.z ho);clear hR T W ho s hi p;go_enter func250,ntmps250;go_wp2_with fail;refine HV.o.mono ?_;rintro x w1 ⟨rfl,Y⟩;have I:=zH (S.o.below Y);obtain⟨yv,a6⟩:∃ yv,valM f i.y=yv:=⟨_,rfl⟩;rw[a6]at G |-;have i8:=ic8 HC I.o J.o;obtain⟨ty,tz,E,one,K,ab,a0,a1⟩:=zsm yv;have HY:=zH K;have HO:=zH (And.intro a0 a1);rw[K];clear Y i4 i5 K a0 a1 a6;go_upto_if 27 with fail
 go_cut [11] (fun v11 wx=>∃ y,v11=vlV y/\R=some (zQ M t h (xc f i.x y),{ e with val:=y })/\St C mb eb lab w lab M V e wx)
 case first =>
  by_cases Q:i.bin=0
  ·have hb:((i.bin:Int) != 0)=false:=by rw[Q];rfl
   have HR:=zH (show R=some (zQ M t h (xc f i.x yv),{ e with val:=yv }) by rw[G.o,Q];rfl);clear Q;go_wp2;go_meet;exact⟨yv,HY.o.symm,HR.o,I.o⟩
  ·have hb:((i.bin:Int) != 0)=true:=by simp;omega
   have T:=HP.o.top I.o.g;have a9:=zH (zhz w1 fg (n*3) i.z f lv T.f1 T.F.r HZ.o);have i6:=ic6 HC I.o J.o;have i7:=ic7 HC I.o J.o;have H0:=zH Q;clear T Q;go_wp2_with fail;refine a9.o.mono ?_;rintro x w2 ⟨rfl,Z⟩;have S2:=zH (I.o.below Z);obtain⟨D,a7⟩:∃ D,valM f i.z=D:=⟨_,rfl⟩;rw[a7]at G |-;have i8:=ic8 HC S2.o J.o;obtain⟨a8,aj,tb,ad,A,ah,a2,a3⟩:=zsm D;have af:=zH A;have N:=zH (And.intro a2 a3);have hq:=eql_vl w2 yv D;rw[HY.o,A]at hq;rw[A];clear Z A a2 a3 a7 i6 i7 hb;by_cases h4:i.bin=4
   ·have o4:((i.bin:Int) != 4)=false:=by rw[h4];rfl
    have o1:((i.bin:Int)==1)=false:=by rw[h4];rfl
    have o2:((i.bin:Int)==2)=false:=by rw[h4];rfl
    have o3:((i.bin:Int)==3)=false:=by rw[h4];rfl
    have HT:=zH (zom w2 (decide (yv=D)));have HR:=zH (show R=some (zQ M t h (xc f i.x (zdh (decide (yv=D)))),{ e with val:=zdh (decide (yv=D)) }) by rw[G.o,h4,zvl]);clear h4;go_wp2_with fail;refine HT.o.mono ?_;rintro x w3 ⟨rfl,rfl⟩;go_wp2;go_meet;exact⟨_,rfl,HR.o,S2.o⟩
   ·have o4:((i.bin:Int) != 4)=true:=by simp;omega
    have H4:=zH h4;clear h4;cases one
    ·have HR:=zH (show R=none by rw[G.o,zpv H0.o H4.o (.inl (HO.o.2 rfl))]);go_wp2;go_ret;rw[HR.o];exact⟨rfl,e,S2.o⟩
    ·cases ad
     ·have HR:=zH (show R=none by rw[G.o,zpv H0.o H4.o (.inr (N.o.2 rfl))]);go_wp2;go_ret;rw[HR.o];exact⟨rfl,e,S2.o⟩
     ·have ey:=HO.o.1 rfl;have ez:=N.o.1 rfl;have HR:=zH (show R=some (zQ M t h (xc f i.x (if i.bin=1 then .num (IntKind.i64.wrap (E+tb))else if i.bin=2 then .num (IntKind.i64.wrap (E-tb))else if i.bin=3 then zdh (decide (E<tb))else zdh (decide (yv=D)))),{ e with val:=(if i.bin=1 then .num (IntKind.i64.wrap (E+tb))else if i.bin=2 then .num (IntKind.i64.wrap (E-tb))else if i.bin=3 then zdh (decide (E<tb))else zdh (decide (yv=D))) }) by rw[G.o,ey,ez,zvm H0.o]);by_cases h1:i.bin=1
      ·have o1:((i.bin:Int)==1)=true:=by rw[h1];rfl
       rw[yj h1]at HR;clear h1 ey ez;go_wp2;go_meet;exact⟨.num (IntKind.i64.wrap (E+tb)),by rw[wrapE];rfl,HR.o,S2.o⟩
      have o1:((i.bin:Int)==1)=false:=zI yo;rw[yg h1]at HR;clear h1;by_cases h2:i.bin=2
      ·have o2:((i.bin:Int)==2)=true:=by rw[h2];rfl
       rw[yj h2]at HR;clear h2 ey ez;go_wp2;go_meet;exact⟨.num (IntKind.i64.wrap (E-tb)),by rw[wrapE];rfl,HR.o,S2.o⟩
      have o2:((i.bin:Int)==2)=false:=zI yo;rw[yg h2]at HR;clear h2;by_cases h3:i.bin=3
      ·have o3:((i.bin:Int)==3)=true:=by rw[h3];rfl
       have HT:=zH (zom w2 (decide (E<tb)));rw[yj h3]at HR;exact mRc
      have o3:((i.bin:Int)==3)=false:=zI yo;have HT:=zH (zom w2 (decide (yv=D)));rw[yg h3]at HR;exact mRc
 case rest =>
  obtain⟨y,rfl,U,hS⟩:=hcut;have O:=zH U;have H:=zH hS;clear U hS S I G HV HY HO ab i8;obtain⟨x,hx⟩:∃ x:Nat,i.x=(x:Int):=⟨i.x.toNat,by have:=HX.o.1;omega⟩;have ac:x<f.qc.length:=yq HX.o.2;obtain⟨x0,a4⟩:∃ x0,f.qc[x]?=some x0:=⟨_,yc ac⟩;have T:=HP.o.top H.o.g;obtain⟨lg,lc,L⟩:=T.locP yo;have f1:=T.f1;have i3:=ic3 HC H.o J.o;have hc:=L.c x x0 a4;have hz:=L.z;have ag:=L.l;have hu:=L.u;obtain⟨ty,z,K⟩:=za3 y;obtain⟨ai,z1,a5⟩:=za3 x0;have S3:=zH ((H.o.locI (x:=i.x) (y:=y) HP.o hu).drew);have S4:=zH (S3.o.ev 5 (vlV y) (e':={ e with val:=y }) rfl);rw[hx]at i3 S3 S4 O;obtain⟨a8,z2,A⟩:=za3 e.val;have e5:wc.cell? (.a eb 5)=some (.iface a8 (.i z2)):=(H.o.b.cell 5).trans (by rw[<- A];rfl);have ez:=H.o.fz;have el:=H.o.b.lt;have aa:lg≠eb:=fun h1=>by have:=T.F.l lg (by rw[hu];rfl);rw[h1,H.o.eo]at this;cases this
  have fl:=T.fl;have cl:=icl HC H.o J.o;rw[hu]at f1;rw[a5]at hc;rw[K]at S3 S4 |-;have HL:=zH hu;clear T L hx a4 K a5 A hu;rw[ybl]at S3 S4;go_wp2_with fail;go_region;have ae:=aa.symm;go_wp2;go_ret;rw[O.o];exact⟨rfl,lab,V,S4.o⟩
end
end
end Go.Proofs.YtkmcihhndgdhpaaGreat
