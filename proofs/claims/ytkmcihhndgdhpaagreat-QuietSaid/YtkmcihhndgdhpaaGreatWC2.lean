/- Parts of the walk. -/
import Derived.Test.YtkmcihhndgdhpaaGreatWB6
import Derived.Test.YtkmcihhndgdhpaaGreatWB9
import Derived.Test.YtkmcihhndgdhpaaGreatWC1
import Derived.Deep.MidRow
set_option maxRecDepth 100000
set_option maxHeartbeats 4000000
set_option linter.unusedSimpArgs false
set_option linter.unusedVariables false
open Go.ChangeMaps Go.Maps Go.RowKit Go.Shelf Go.Proofs.Tryz
namespace Go.Proofs.YtkmcihhndgdhpaaGreat
variable {N B E:Nat}{l:List Rp}{W W':World}{v:Value}
theorem mTa {p:Prop}(h:p:=by
  go_wp2;go_roundg (C.P.code.length-(k+1))
  case measure=>have:=HGK.o;omega
  case rel=>rw[show((k:Int)+1)=((k+1:Nat):Int) by omega];exact REL.o):p:=h
theorem mPc {p:Prop}(h:p:=by
  go_wp2;go_roundg (l.length-i-(j+1))
  case measure=>have:=HGJ.o;omega
  case rel=>rw[show((j:Int)+1)=((j+1:Nat):Int) by omega];exact REL.o):p:=h
def accM (on:Nat->Bool):List In->Nat->List Nat
 | [],_=>[]
 | i::r,k=>(if on k&&decide (2<=i.op)&&decide (i.op<=5)then [k]else [])++accM on r (k+1)
def zfe (q:Nat->Nat->Option Rp):List Nat->List Rp
 | []=>[]
 | a::r=>(a::r).filterMap (q a)++zfe q r
noncomputable def zlv (P:Pr)(st:PS)(x:Nat)(f:LF)(a b:Nat):Option Rp :=
 match P.code[a]?,P.code[b]? with
 | some ia,some ib=>zj9 P st x f a b ia ib
 | _,_=>none
noncomputable def allM (P:Pr)(st:PS)(x:Nat)(f:LF):List Rp:=zfe (zlv P st x f) (accM (onB P) P.code 0)
def zgh (P:Pr)(rs:List Rp):Prop:=∃ st x Bs f,PtsIs P st x/\(Bs.length=P.qg.length/\(∀ (s x:Nat),Bs[s]?=some x->x<2 ^ P.qg.length)/\∀ s j,zg Bs s j=true↔BelP (zbt P) s j)/\LkIs P st Bs f/\rs=allM P st x f
def runY (stop:List Rp->Bool):List Rp->List Rp->List Rp
 | l,[]=>l
 | l,r::rs=>if stop (l++[r])then l++[r]else runY stop (l++[r]) rs
theorem zmr (on:Nat->Bool):∀ (l:List In) (k a:Nat),a ∈ accM on l k->∃ i,l[a-k]?=some i/\k<=a/\2<=i.op/\i.op<=5
 | [],_,_,h=>by simp[accM]at h
 | i::r,k,a,h=>by
  rw[accM,yu]at h;rcases h with h | h
  ·split at h
   ·rename_i A;simp only[yH,decide_eq_true_eq]at A;obtain rfl:a=k:=by simpa using h
    exact⟨i,by simp,yr _,A.1.2,A.2⟩
   ·cases h
  ·obtain⟨j,h1,h2,h3⟩:=zmr on r (k+1) a h;refine⟨j,?_,by omega,h3⟩;rw[show a-k=(a-(k+1))+1 by omega];exact h1
structure zpe (yf:Nat)(first cap:Array Value)(N E:Nat)(stop:List Rp->Bool)(Inv:List Rp->World->Prop):Prop where
 enter:∀ (args:Array Value) (w:World),(callFunc yf args).run prog w=.ok (.enter yf args) w
 low:∀ l W W',Inv l W->Below W.heap.size W W'->Inv l W'
 said:∀ l r W va vb,Inv l W->stop l=false->l.length<=200000->E<=W.heap.size->W.ownsRow E 3 1 va r.la.length (ints r.la)->W.ownsRow E 3 1 vb r.lb.length (ints r.lb) ->
  Calls prog yf (first.push (.agg (zba r va vb))++cap) W fun e w'=>e=.r (.bool (!stop (l++[r])))/\Inv (l++[r]) w'/\Yk N E W w'
def zl9 (P:Pr)(N E:Nat)(stop:List Rp->Bool)(Inv:List Rp->World->Prop)(w:World)(e:Ending)(w':World):Prop :=
 e=.e/\Yk N E w w'/\∃ rs,zgh P rs/\Inv (runY stop [] rs) w'
def AtR (P:Pr)(M:List Nat)(wj:World)(gk:Nat)(v6 v32:Value)(W:World):Prop :=
 ∃ (k:Nat) (l:List Nat),v32=.i k/\gk=P.code.length-k/\k<=P.code.length/\W.ownsRow wj.heap.size 3 1 v6 l.length (ints l)/\l.length<=k/\Below wj.heap.size wj W/\l++accM (onB P) (P.code.drop k) k=M
structure YkI (N E:Nat)(stop:List Rp->Bool)(Inv:List Rp->World->Prop)(wj:World)(vat:Value)(at_:List Nat)(l:List Rp)(W:World):Prop where
 i:Inv l W
 s:stop l=false
 y:Yk N E wj W
 r:W.ownsRow wj.heap.size 3 1 vat at_.length (ints at_)
theorem YkI.below {stop:List Rp->Bool}{Inv:List Rp->World->Prop}{wj:World}{vat:Value}{at_:List Nat}(h:YkI N E stop Inv wj vat at_ l W)(hl:∀ l W W',Inv l W->Below W.heap.size W W'->Inv l W')(hb:Below W.heap.size W W'):YkI N E stop Inv wj vat at_ l W' :=
 ⟨hl _ _ _ h.i hb,h.s,h.y.trans (Yk.qz hb),zbn h.r hb fun k e=>(h.r.lt k e).2⟩
def YR (N E:Nat)(stop:List Rp->Bool)(Inv:List Rp->World->Prop)(wj:World)(q:Nat->Nat->Option Rp)(vat:Value)(at_:List Nat)(M:List Rp)(gk:Nat)(v60:Value)(W:World):Prop :=
 ∃ (i:Nat) (l:List Rp),v60=.i i/\gk=at_.length-i/\i<=at_.length/\YkI N E stop Inv wj vat at_ l W/\l.length<=i*300/\runY stop l (zfe q (at_.drop i))=M
def ZR (N E:Nat)(stop:List Rp->Bool)(Inv:List Rp->World->Prop)(wj:World)(q:Nat->Nat->Option Rp)(vat:Value)(at_:List Nat)(M:List Rp)(i a:Nat)(gk:Nat)(v69:Value)(W:World):Prop :=
 ∃ (j:Nat) (l:List Rp),v69=.i j/\gk=at_.length-i-j/\j<=at_.length-i/\YkI N E stop Inv wj vat at_ l W/\l.length<=i*300+j/\runY stop l ((at_.drop (i+j)).filterMap (q a)++zfe q (at_.drop (i+1)))=M
theorem zpg (C:AX)(hc:AXok C)(hwr:WfRp C.P)(hwl:WfLk C.P)(hio:∀ (k:Nat) (i:In),C.P.code[k]?=some i->InOk i)(w:World)(a3:C.on w)(cp:Nat)(hcp:Blk w cp 158 #[.p C.pb])
  (yf:Nat) (first cap:Array Value) (stop:List Rp->Bool) (Inv:List Rp->World->Prop) (Y:zpe yf first cap C.w0.heap.size w.heap.size stop Inv) (hI:Inv [] w) (hs:stop []=false) :
  Calls prog 150 #[.func (.func yf) first cap,.p cp] w (zl9 C.P C.w0.heap.size w.heap.size stop Inv w):=by
 have c6:AXok (C.at_ w):=hc.at_ a3;have dj:=hc.wf.cl;have HY:=zH Y;have bk:=zH (And.intro hI hs);have H:=zH hcp;have I:=zH a3;have ae:w.cell? (.a cp 0)=some (.p C.pb):=hcp.cell 0;have az:=hcp.lt;have cn:=zH hio;have ct:=zH hwl;have cu:=zH hwr;have bi:=zH (zxh (C.at_ w) c6 w yB);clear Y hI hs hcp a3 hio hwl hwr;go_enter func150,ntmps150;go_wp2_with fail;refine bi.o.mono ?_;rintro e w1 ⟨VF,Rs,Bs,rfl,hF,c3,_⟩;have HF:=zH hF;have aj:=zH c3;have bq:=zH (zzo (C.at_ w) w1 VF Rs Bs hF cn.o);clear hF c3 ae;go_wp2_with fail;refine bq.o.mono ?_;rintro e w2 ⟨VP,st,x,rfl,hP,bu,ab⟩;have HP:=zH hP;have b8:=zH bu;have b3:=zH ab;have S:=zH (aj.o.trans (ab.mono aj.o.size));clear hP bu ab;go_wp2_with fail;have c7:=H.o.below S.o.drew H.o.lt;have E:w2.drew.cell? (.a cp 0)=some (.p C.pb):=c7.cell 0;refine rgl 8 (fun(W':World)=>W'.cell? (.a cp 0)=some (.p C.pb)) ?_
 iterate 5(refine tK 0 rfl E ?_)
 refine rdy 5 rfl fun K hK=>?_;go_simp;have bo:=zH (zya (C.at_ w) w2.drew VF Rs Bs w1 VP st x ⟨⟨((HF.o.below b3.o yL).below (yn _ w2).drew yL),ct.o⟩,HP.o.below yB.drew⟩);refine bo.o.mono ?_;rintro e w3 ⟨V,f,rfl,hk,cf,c4⟩;have ad:Below w2.heap.size w2 w3:=(yn _ w2).drew.trans c4;have ak:=zH (S.o.trans (ad.mono S.o.size));have bm:=zH hk;have bn:=zH cf;have a4:=zH ad;refine hK.o _ _ ((H.o.below ak.o H.o.lt).cell 0) (fun E=>?_);clear hK K hk cf c4 ad;refine tK 6 rfl E ?_;refine rdy 7 rfl fun K hK=>?_;go_simp;have bd:Below w3.heap.size w3 (w3.alloc (.k #[.p C.pb,.p VF.fb,.p VP.sb,.p V.xb] 304)):=yB.alloc yL _;have G:=zH (ak.o.trans (bd.mono ak.o.size));have b6:=zH (show Blk (w3.alloc (.k #[.p C.pb,.p VF.fb,.p VP.sb,.p V.xb] 304)) w3.heap.size 304 #[.p C.pb,.p VF.fb,.p VP.sb,.p V.xb]from Blk.newAt rfl);have N:=zH bd;refine hK.o _ _ ((H.o.below G.o H.o.lt).cell 0) (fun E=>?_);clear hK K bd;refine lst rfl fun K hK=>?_;go_simp;refine hK _ _ ?_;clear hK K E;generalize w3.alloc (.k #[.p C.pb,.p VF.fb,.p VP.sb,.p V.xb] 304)=wj at G b6 N |-;have b5:=zH (((HF.o.below b3.o yL).below a4.o yL).below N.o yL);have bg:∃ q at_ jb,zgh C.P (zfe q at_)/\at_=accM (onB C.P) C.P.code 0/\jb=w3.heap.size/\(∀ W,Yk C.w0.heap.size w.heap.size wj W->W.cell? (.a VF.fb 1)=some (.m VF.jf)/\MkE W VF.jf (onB C.P)) /\
   ∀ W,Yk C.w0.heap.size w.heap.size wj W->∀ a b,a ∈ at_->b ∈ at_->Calls prog 155 #[.p jb,.i a,.i b] W (zo3 (q a b) W):=by
  obtain⟨J,e1,e2,e3,e4,e5,e6,hJ⟩:=jg_on hc cu.o I.o (x:=x) (st:=st) (f:=f) b5.o (((HP.o.below a4.o).below N.o)) (ya I.o.size aj.o.size) b8.o.xs (bm.o.below N.o) b6.o;refine⟨zlv C.P st x f,accM (onB C.P) C.P.code 0,w3.heap.size,⟨st,x,Bs,f,b8.o,⟨HF.o.bl,HF.o.small,HF.o.qk⟩,bn.o,rfl⟩,rfl,rfl,fun W hW=>?_,fun W hW a b ha hb=>?_⟩
  ·have h:=(b5.o.yk hc I.o hW).f.h;exact⟨h.cells.1 1,h.on⟩
  ·obtain⟨ia,bf,_,cy,cz⟩:=zmr _ _ _ _ ha;obtain⟨ib,L,_,ab,D⟩:=zmr _ _ _ _ hb;rw[Nat.sub_zero]at bf L;have hq:zlv C.P st x f a b=zj9 C.P st x f a b ia ib:=by unfold zlv;rw[bf,L]
   have key:=pair_any J W W a b ia ib (JgOn.yk hJ hW) yB (by rw[<- e1];exact bf) (by rw[<- e1];exact L) ⟨cy,cz⟩ ⟨ab,D⟩;rw[<- e1,<- e2,<- e3,<- e4,<- e5,<- hq]at key;exact key
 obtain⟨q,at_,jb,hR,bb,ce,c8,af⟩:=bg;rw[<- ce];have HR:=zH hR;have dh:=zH bb;have bj:=zH c8;have b7:=zH af;have a6:=zH (show w.heap.size<=wj.heap.size from G.o.size);have ST:=zH (show AtR C.P at_ wj C.P.code.length (.z) (.i 0) wj from⟨0,[],rfl,rfl,yD _,yA _ _ _ _,yr _,yn _ _,by rw[yal,yas,bb]⟩);have cs:=zH (fun(W:World) (hW:Below wj.heap.size wj W)=>hc.vt (w:=W) ((I.o.trans (G.o.mono I.o.size)).trans (hW.mono (ya I.o.size a6.o))));have cm:=zH (fun(W:World) (hW:Below wj.heap.size wj W) (k:Nat) (i:In) (hi:C.P.code[k]?=some i)=>hc.ql (w:=W) ((I.o.trans (G.o.mono I.o.size)).trans (hW.mono (ya I.o.size a6.o))) hi);have ay:=zH (fun(W:World) (hW:Below wj.heap.size wj W)=>(H.o.below G.o H.o.lt).below hW (yi H.o.lt G.o.size));clear hR bb c8 af ce HF HP b8 aj b3 S bq bi bo ak bm bn a4 N b6 b5 c6;have ae:=(ay.o _ yB).cell 0;have az:=(ay.o _ yB).lt;have d6:=cs.o _ yB;go_wp2_with fail;clear ae az d6;go_loopg [6,32] C.P.code.length (fun gk v6 v32 wr=>AtR C.P at_ wj gk v6 v32 wr)
 case atStart=>exact ST.o
 case round =>
  obtain⟨k,l,rfl,cd,hk,hr,d5,hb,hM⟩:=hrel;obtain⟨va,vc,rfl⟩:=zZ hr;have HGK:=zH cd;have ao:=zH hr;have a5:=zH hb;have HM:=zH hM;clear cd hr hb hM;by_cases aw:k<C.P.code.length
  ·obtain⟨i,hi⟩:∃ i,C.P.code[k]?=some i:=⟨_,yc aw⟩;obtain⟨aa,ac,A,d0,dk⟩:=cm.o wr a5.o k i hi;have i0:wr.cell? (.a C.cg (k*14))=some (.i i.op):=A 0 yo;have i1:wr.cell? (.n C.cg k 1)=some (.i i.place):=A 1 yo;have i2:wr.cell? (.n C.cg k 2)=some (.i i.fn):=A 2 yo;have i3:wr.cell? (.n C.cg k 3)=some (.i i.x):=A 3 yo;have i4:wr.cell? (.n C.cg k 4)=some (.bool i.y.c):=A 4 yo;have i5:wr.cell? (.n C.cg k 5)=some (.i i.y.n):=A 5 yo;have i6:wr.cell? (.n C.cg k 6)=some (.bool i.z.c):=A 6 yo;have i7:wr.cell? (.n C.cg k 7)=some (.i i.z.n):=A 7 yo;have i8:wr.cell? (.n C.cg k 8)=some (.i i.bin):=A 8 yo;have i9:wr.cell? (.n C.cg k 9)=some (.i i.var):=A 9 yo;have d8:wr.cell? (.n C.cg k 10)=some (.i i.site):=A 10 yo;have d9:wr.cell? (.n C.cg k 11)=some (.i i.call):=A 11 yo;have da:wr.cell? (.n C.cg k 12)=some (.slice aa i.args.length ac):=A 12 yo;have dc:wr.cell? (.n C.cg k 13)=some (.i i.to):=A 13 yo;have O:=zH (show l++((if onB C.P k&&decide (2<=i.op)&&decide (i.op<=5)then [k]else [])++accM (onB C.P) (C.P.code.drop (k+1)) (k+1))=at_ by rw[<- HM.o,zae hi,accM]);have be:Below wr.heap.size wr (wr.alloc (.k (.j i (.slice aa i.args.length ac)) 309)):=yB.alloc yL _;have L:Blk (wr.alloc (.k (.j i (.slice aa i.args.length ac)) 309)) wr.heap.size 309 (.j i (.slice aa i.args.length ac)):=Blk.newAt rfl;have aq:=a5.o.trans (be.mono a5.o.size);obtain⟨d3,a3⟩:=bj.o _ (Yk.qz aq);clear A hi HM d0;go_wp2_with fail;refine(hasE _ VF.jf k (onB C.P) a3 yo).mono ?_;rintro e w2 ⟨rfl,rfl⟩;have bh:=zbn ao.o be fun k e=>(ao.o.lt k e).2;obtain⟨ib,b1⟩:∃ ib,ib=wr.heap.size:=⟨_,rfl⟩;rw[<- b1]at L |-;generalize wr.alloc (.k (.j i (.slice aa i.args.length ac)) 309)=wi at L aq bh |-;have a7:=zH bh;have R:=zH aq;have dd:=L.cell;have de:=L.lt;clear i0 i1 i2 i3 i4 i5 i6 i7 i8 i9 d8 d9 da dc be d3 a3 bh aq b1 L;cases honk:onB C.P k
   ·have REL:=zH (show AtR C.P at_ wj (C.P.code.length-(k+1)) (.slice va l.length vc) (.i ((k+1:Nat):Int)) wi from⟨k+1,l,rfl,rfl,by omega,a7.o,by omega,R.o,by have:=O.o;rw[yg (by simp[honk])]at this;simpa using this⟩);clear honk;exact mTa
   ·by_cases h2:2<=i.op
    ·have o2:(2:Int)<=(i.op:Int):=yo;by_cases h5:i.op<=5
     ·have o5:(i.op:Int)<=5:=yo;have cq:=zH (show(l++[k])++accM (onB C.P) (C.P.code.drop (k+1)) (k+1)=at_ by have:=O.o;rw[yj (by simp[honk,h2,h5])]at this;simpa using this);clear honk h2 h5;go_wp2_with (refine ze2 zhx rfl _ _ rfl wj.heap.size _ l.length (ints l) wi.heap.size _ _ (a7.o.alloc _) (Blk.newAt rfl) rfl rfl rfl yE yo (by have:=R.o.size;simp;omega) ?_;intro g5 c5 w5 ag c9 c0);have D:Below wj.heap.size wj w5:=(R.o.alloc R.o.size _).grown c9 (by have:=R.o.size;simp;omega) (fun k e=>(a7.o.lt k e).1);have REL:=zH (show AtR C.P at_ wj (C.P.code.length-(k+1)) (.s g5 (l.length+1) c5) (.i ((k+1:Nat):Int)) w5 from
       ⟨k+1,l++[k],rfl,rfl,by omega,by simpa [ints] using ag,by simp;omega,D,cq.o⟩)
      clear D ag c9 c0;exact mTa
     ·have o5:¬ (i.op:Int)<=5:=yo;have REL:=zH (show AtR C.P at_ wj (C.P.code.length-(k+1)) (.slice va l.length vc) (.i ((k+1:Nat):Int)) wi from⟨k+1,l,rfl,rfl,by omega,a7.o,by omega,R.o,by have:=O.o;rw[yg (by simp[h5])]at this;simpa using this⟩);clear h5;exact mTa
    ·have o2:¬ (2:Int)<=(i.op:Int):=yo;have REL:=zH (show AtR C.P at_ wj (C.P.code.length-(k+1)) (.slice va l.length vc) (.i ((k+1:Nat):Int)) wi from⟨k+1,l,rfl,rfl,by omega,a7.o,by omega,R.o,by have:=O.o;rw[yg (by simp[h2])]at this;simpa using this⟩);clear h2;exact mTa
  ·obtain rfl:k=C.P.code.length:=yo;have d4:l=at_:=by rw[<- HM.o,yaa,accM,ya9]
   subst d4;obtain⟨Mf,b9⟩:∃ Mf,Mf=runY stop [] (zfe q l):=⟨_,rfl⟩;have cj:=zH (G.o.trans (a5.o.mono a6.o));have cw:=zH (show YR C.w0.heap.size w.heap.size stop Inv wj q (.slice va l.length vc) l Mf l.length (.i 0) wr from
    ⟨0,[],rfl,rfl,yD _,⟨HY.o.low _ _ _ bk.o.1 cj.o,bk.o.2,Yk.qz a5.o,ao.o⟩,yD _,by rw[yal,b9]⟩)
   have bp:=zH b9;have dm:l.length<=300:=yo;have dn:l.length<=vc:=ztc ao.o;clear b9 d5 aw hk HM HGK;go_wp2_with fail;go_loopg [60] l.length (fun gk v60 wr=>YR C.w0.heap.size w.heap.size stop Inv wj q (.slice va l.length vc) l Mf gk v60 wr)
   case atStart=>exact cw.o
   case round =>
    obtain⟨i,la,rfl,ca,hi,hY,ch,hM⟩:=hrel;have ck:=zH ca;have a8:=zH hY;have co:=zH ch;have HM:=zH hM;clear ca hY ch hM;by_cases aw:i<l.length
    ·obtain⟨a,ha⟩:∃ a,l[i]?=some a:=⟨_,yc aw⟩;obtain⟨g,gc,d7,_,_⟩:=a8.o.r.form yo;injection d7 with e1 e2 e3;subst e1;have d1:wr.cell? (.a g i)=some (.i a):=by rw[a8.o.r.cellAt i yo];simp[ints,ha]
     have HA:=zH ha;have df:i<vc:=yo;clear ha e2 e3;have cx:=zH (show ZR C.w0.heap.size w.heap.size stop Inv wj q (.s g l.length vc) l Mf i a (l.length-i) (.i 0) wr from
      ⟨0,la,rfl,rfl,yD _,a8.o,co.o,by have:=HM.o;rw[zae HA.o,zfe]at this;rw[Nat.add_zero,zae HA.o];exact this⟩)
     go_wp2_with fail;clear d1;go_loopg [69] (l.length-i) (fun gk v69 wr=>ZR C.w0.heap.size w.heap.size stop Inv wj q (.s g l.length vc) l Mf i a gk v69 wr)
     case atStart=>exact cx.o
     case round =>
      obtain⟨j,lb,rfl,cc,hj,bz,ci,br⟩:=hrel;have HGJ:=zH cc;have Z:=zH bz;have am:=zH ci;have an:=zH br;clear cc bz ci br;by_cases dg:j<l.length-i
      ·obtain⟨b,hb⟩:∃ b,l[i+j]?=some b:=⟨_,yc yo⟩;have d2:wr.cell? (.a g (i+j))=some (.i b):=by rw[Z.o.r.cellAt (i+j) yo];simp[ints,hb]
       have O:=zH (show runY stop lb (([b].filterMap (q a)++(l.drop (i+(j+1))).filterMap (q a))++zfe q (l.drop (i+1)))=Mf by have:=an.o;rw[zae hb]at this;rw[<- List.filterMap_append];exact this);have HP:=zH (b7.o wr Z.o.y a b (yl HA.o) (yl hb));clear hb an;go_wp2_with fail;refine HP.o.mono ?_;rintro e w5 ⟨D,Q⟩;have di:=zH D;clear d2;cases hq:q a b with
       | none =>
        rw[hq]at Q;simp only[xi]at Q;subst Q;have a0:Below wr.heap.size wr (w5.alloc (.k #[.i 0,.i 0,.i 0,.i 0,.i 0,.i 0,.z,.z] 69)):=D.alloc D.size _;have REL:=zH (show ZR C.w0.heap.size w.heap.size stop Inv wj q (.s g l.length vc) l Mf i a (l.length-i-(j+1)) (.i ((j+1:Nat):Int)) (w5.alloc (.k #[.i 0,.i 0,.i 0,.i 0,.i 0,.i 0,.z,.z] 69))from
         ⟨j+1,lb,rfl,rfl,by omega,Z.o.below HY.o.low a0,by have:=am.o;omega,by have:=O.o;simp only[List.filterMap_cons,hq,List.filterMap_nil,yas]at this;exact this⟩)
        clear a0 D hq;exact mPc
       | some r =>
        rw[hq]at Q;simp only at Q;obtain⟨v1,v2,Q,ah,ai⟩:=Q;obtain⟨a1,c1,rfl⟩:=zZ ah;obtain⟨a2,c2,rfl⟩:=zZ ai;have HV:=zH (And.intro ah ai);have eg:=HY.o.enter;unfold zba at Q;subst Q;have a0:Below wr.heap.size wr (w5.alloc (.k #[.i r.a,.i r.b,.i r.new,.i r.field,.i r.ra,.i r.rb,.slice a1 r.la.length c1,.slice a2 r.lb.length c2] 69)):=D.alloc D.size _;have b4:=zH (show w.heap.size<=wr.heap.size from ya a6.o Z.o.y.size);have ap:=zH (Z.o.below HY.o.low a0);have HS:=zH (HY.o.said lb r (w5.alloc (.k #[.i r.a,.i r.b,.i r.new,.i r.field,.i r.ra,.i r.rb,.slice a1 r.la.length c1,.slice a2 r.lb.length c2] 69)) (.slice a1 r.la.length c1) (.slice a2 r.lb.length c2) ap.o.i ap.o.s (yq am.o) (ya b4.o a0.size)
         (zm (zbn ah ((yn w5.heap.size w5).alloc yL _) fun k e=>(ah.lt k e).2) b4.o) (zm (zbn ai ((yn w5.heap.size w5).alloc yL _) fun k e=>(ai.lt k e).2) b4.o))
        clear ah ai a0 D;go_wp2_with fail;refine HS.o.mono ?_;rintro e w7 ⟨Q,au,ax⟩;clear eg;have U:=ap.o.y.trans ax;cases hst:stop (lb++[r])
        ·rw[hst]at Q;simp only[yct]at Q;subst Q;have REL:=zH (show ZR C.w0.heap.size w.heap.size stop Inv wj q (.s g l.length vc) l Mf i a (l.length-i-(j+1)) (.i ((j+1:Nat):Int)) w7 from
          ⟨j+1,lb++[r],rfl,rfl,by omega,⟨au,hst,U,zly ap.o.r ax a6.o yd⟩,by have:=am.o;simp;omega,by have:=O.o;simp only[List.filterMap_cons,hq,List.filterMap_nil,ya1,yas,runY,hst,yI,if_false]at this;exact this⟩)
         clear hq hst au ax U;exact mPc
        ·rw[hst]at Q;simp only[ych]at Q;subst Q;have a9:Mf=lb++[r]:=by
          have:=O.o;simp only[List.filterMap_cons,hq,List.filterMap_nil,ya1,yas,runY,hst,if_true]at this;exact this.symm
         have b2:=zH (show zl9 C.P C.w0.heap.size w.heap.size stop Inv w (.e) w7 from⟨rfl,(Yk.qz G.o).trans U,_,HR.o,by rw[<- bp.o,a9];exact au⟩);clear hq hst au ax U a9;go_wp2_with fail
         first | go_end0 | refine ym (yp rfl _ _ _) rfl ?_
         exact b2.o
      ·obtain rfl:j=l.length-i:=yo;have REL:=zH (show YR C.w0.heap.size w.heap.size stop Inv wj q (.s g l.length vc) l Mf (l.length-(i+1)) (.i ((i+1:Nat):Int)) wr from
        ⟨i+1,lb,rfl,rfl,by omega,Z.o,by have:=am.o;omega,by have:=an.o;rw[show i+(l.length-i)=l.length by omega,yaa]at this;simpa using this⟩)
       clear an;go_wp2;go_roundg (l.length-(i+1))
       case measure=>have:=ck.o;omega
       case rel=>rw[show((i:Int)+1)=((i+1:Nat):Int) by omega];exact REL.o
    ·obtain rfl:i=l.length:=yo;have a9:Mf=la:=by
      have:=HM.o;rw[yaa]at this;simpa [zfe,runY] using this.symm
     have b2:=zH (show zl9 C.P C.w0.heap.size w.heap.size stop Inv w (.e) wr from⟨rfl,(Yk.qz G.o).trans a8.o.y,_,HR.o,by rw[<- bp.o,a9];exact a8.o.i⟩);clear a9;go_wp2_with fail
     first | go_end0 | refine ym (yp rfl _ _ _) rfl ?_
     exact b2.o
theorem tyRps:zj prog 62 69 8 96:=zj.mk' underlying62 (z:=.agg xi) yk rfl yd yd
def zhu:List Rp->List (Value×Value)->List Value
 | r::l,p::ps=>(zba r p.1 p.2).toList++zhu l ps
 | _,_=>[]
theorem zth:∀ {l:List Rp} {ps:List (Value×Value)},ps.length=l.length->∀ (r:Rp) (p:Value×Value),zhu (l++[r]) (ps++[p])=zhu l ps++(zba r p.1 p.2).toList
 | [],[],_,r,p=>by simp[zhu]
 | [],_::_,h,_,_=>by simp at h
 | _::_,[],h,_,_=>by simp at h
 | a::l,q::ps,h,r,p=>by
  have:=zth (l:=l) (ps:=ps) (by simpa using h) r p;simp only[ya1,zhu,this,ya7]
structure zfu (W:World)(B:Nat)(v:Value)(l:List Rp)(ps:List (Value×Value)):Prop where
 n:ps.length=l.length
 r:W.ownsRow B 69 8 v l.length (zhu l ps)
 k:∀ (k:Nat) (r:Rp) (p:Value×Value),l[k]?=some r->ps[k]?=some p->W.ownsRow B 3 1 p.1 r.la.length (ints r.la)/\W.ownsRow B 3 1 p.2 r.lb.length (ints r.lb)
theorem zfu.below {ps:List (Value×Value)}(h:zfu W B v l ps)(hb:Below N W W')(hN:W.heap.size<=N):zfu W' B v l ps :=
 ⟨h.n,zbn h.r hb fun k e=>yi (h.r.lt k e).2 hN,fun k r p h1 h2=>⟨zbn (h.k k r p h1 h2).1 hb fun j e=>yi ((h.k k r p h1 h2).1.lt j e).2 hN,zbn (h.k k r p h1 h2).2 hb fun j e=>yi ((h.k k r p h1 h2).2.lt j e).2 hN⟩⟩
def zb7 (lim:Int)(l:List Rp):Bool:=!l.isEmpty&&decide (lim<=(l.length:Int))
structure PlI (B:Nat)(lim:Int)(c8 c7 c6 c3:Nat)(l:List Rp)(W:World):Prop where
 s:Blk W c8 4 #[.bool (zb7 lim l)]
 m:Blk W c7 3 #[.i 0]
 o:∃ v ps,Blk W c6 62 #[v]/\zfu W B v l ps
 t:Blk W c3 3 #[.i lim]
theorem PlI.below {lim:Int}{c8 c7 c6 c3:Nat}(h:PlI B lim c8 c7 c6 c3 l W)(hb:Below W.heap.size W W'):PlI B lim c8 c7 c6 c3 l W':=by
 obtain⟨v,ps,ho,A⟩:=h.o;exact⟨h.s.below hb h.s.lt,h.m.below hb h.m.lt,⟨v,ps,ho.below hb ho.lt,A.below hb yL⟩,h.t.below hb h.t.lt⟩
theorem zsw (lim:Int)(l:List Rp)(r:Rp):zb7 lim (l++[r])=decide (lim<=(l.length:Int)+1):=by simp[zb7]
theorem Yk.set {g:Nat}{w:World}{t:TypeId}{cs:Array Value}(hb:Blk w g t cs)(hN:N<=g)(hE:g<E)(ht:t=3\/t=4\/t=62)(i:Nat)(u:Value):Yk N E w (w.setCell (.a g i) u) :=
 ⟨rfl,rfl,rfl,by simp[World.setCell],fun k o A D=>by
  refine(yt w ⟨g,i,none⟩ u k (fun e=>?_)).trans A;subst e;unfold Blk at hb;rw[hb]at A;injection A with A;subst A;rcases D with D | D
  ·have:k<N:=D;omega
  ·obtain⟨_,h2⟩:=D t rfl;obtain⟨h3,h4,h5⟩:=h2 hE;rcases ht with ht | ht | ht
   ·exact h3 ht
   ·exact h4 ht
   ·exact h5 ht⟩
theorem Yk.grown {size n:Nat}{w w':World}{xs:List Value}(hr:w.ownsRow B 69 size v n xs)(hB:N<=B)(hg:w.grownBy w' v.ownBlock):Yk N E w w' :=
 ⟨hg.os,hg.tape,hg.output,hg.size,fun k o A D=>by
  refine(hg.block k (lt_of_block A) (fun e=>?_)).trans A;obtain⟨cs,hb⟩:=zr hr e.symm;have G:=(hr.lt k e.symm).1;unfold Blk at hb;rw[hb]at A;injection A with A;subst A;rcases D with D | D
  ·omega
  ·exact(D _ rfl).1 rfl⟩
theorem z0a (args:Array Value)(w:World):(callFunc 64 args).run prog w=.ok (.enter 64 args) w:=enters_of func64 yk rfl args w
theorem zzm (N E:Nat)(lim:Int)(c8 c7 c6 c3:Nat)(hN:N<=c8/\N<=c6)(hE:c8<E/\c7<E/\c6<E/\c3<E)(l:List Rp)(r:Rp)(W:World)(va vb:Value)(hI:PlI E lim c8 c7 c6 c3 l W)(hs:zb7 lim l=false)(hl:l.length<=200000)(hEW:E<=W.heap.size)
  (ha:W.ownsRow E 3 1 va r.la.length (ints r.la)) (hb:W.ownsRow E 3 1 vb r.lb.length (ints r.lb)) :
  Calls prog 64 #[.agg (zba r va vb),.p c8,.p c7,.p c6,.p c3] W fun e w'=>e=.r (.bool (!zb7 lim (l++[r])))/\PlI E lim c8 c7 c6 c3 (l++[r]) w'/\Yk N E W w':=by
 obtain⟨h8,h7,⟨v,ps,h6,U⟩,h3⟩:=hI;rw[hs]at h8;obtain⟨L,k1,rfl⟩:=zZ ha;obtain⟨O,k2,rfl⟩:=zZ hb;obtain⟨v1,k3,rfl⟩:=zZ U.r;unfold zba;have H8:=zH h8;have S:=zH h7;have H6:=zH h6;have H3:=zH h3;have G:=zH U;have aa:=h8.cell;have ab:=h8.lt;have a8:=h6.cell;have a9:=h6.lt;have a6:c8≠c6:=h8.qs h6 yd;have a3:c6≠c8:=h6.qs h8 yd;have a0:c3≠c6:=h3.qs h6 yd;have ak:c6≠c3:=h6.qs h3 yd;have a2:c3≠c8:=h3.qs h8 yd;have am:c8≠c3:=h8.qs h3 yd;have HA:=zH (And.intro ha hb);clear h8 h7 h6 h3 U ha hb;go_enter func64,ntmps64;go_wp2_with (refine ze2 tyRps rfl _ _ rfl E _ l.length (zhu l ps) (W.heap.size+1) _ (zba r (.slice L r.la.length k1) (.slice O r.lb.length k2)) ((G.o.r.alloc _).alloc _) (Blk.newAt yy) rfl rfl rfl (by simp[zba,Value.oneCell']) yo (by simp;omega) ?_;intro g cap w5 J D a7;have K:=((H6.o.alloc _).alloc _).append ((G.o.r.alloc _).alloc _) D yd;have R:=((H8.o.alloc _).alloc _).append ((G.o.r.alloc _).alloc _) D yd;have k3:=((H3.o.alloc _).alloc _).append ((G.o.r.alloc _).alloc _) D yd;have ae:=K.cell;have af:=K.frozen;have ag:=K.lt;have ah:=R.cell;have ai:=R.frozen;have aj:=R.lt;have ac:=k3.cell;have ad:=k3.lt;have k7:=((S.o.alloc _).alloc _).append ((G.o.r.alloc _).alloc _) D yd);go_ret;have Q:Below W.heap.size W ((W.alloc (.k #[.i r.a,.i r.b,.i r.new,.i r.field,.i r.ra,.i r.rb,.slice L r.la.length k1,.slice O r.lb.length k2] 69)).alloc (.k #[.i r.a,.i r.b,.i r.new,.i r.field,.i r.ra,.i r.rb,.slice L r.la.length k1,.slice O r.lb.length k2] 69)):=(yB.alloc yL _).alloc yy _;have a4:c7≠c6:=S.o.qs H6.o yd;have a5:c7≠c8:=S.o.qs H8.o yd;have H:=(G.o.r.alloc (.k #[.i r.a,.i r.b,.i r.new,.i r.field,.i r.ra,.i r.rb,.slice L r.la.length k1,.slice O r.lb.length k2] 69)).alloc (.k #[.i r.a,.i r.b,.i r.new,.i r.field,.i r.ra,.i r.rb,.slice L r.la.length k1,.slice O r.lb.length k2] 69);have I:=R.qi (p:=(.a c6 0)) a6 (.s g (l.length+1) cap);have A:∀ {u:Value} {n:Nat} {xs:List Value},W.ownsRow E 3 1 u n xs->((w5.setCell (.a c6 0) (.s g (l.length+1) cap)).setCell (.a c8 0) (.bool (decide (lim<=(l.length:Int)+1)))).ownsRow E 3 1 u n xs:=fun hr =>
  zL (zL (zgw H D yd (zbn hr Q fun k e=>(hr.lt k e).2)) K yd 0 _) I yd 0 _
 rw[zsw];refine⟨rfl,⟨?_,(k7.qi (p:=(.a c6 0)) a4 _).qi (p:=(.a c8 0)) a5 _,⟨_,ps++[(.slice L r.la.length k1,.slice O r.lb.length k2)],((K.qe 0 (.s g (l.length+1) cap)).qi (p:=(.a c8 0)) a3 _),?_⟩,(k3.qi (p:=(.a c6 0)) a0 _).qi (p:=(.a c8 0)) a2 _⟩,?_⟩
 ·rw[zsw];exact(I.qe 0 _).cast rfl
 ·refine⟨by simp[G.o.n],?_,fun k q p h1 h2=>?_⟩
  ·rw[zth G.o.n,yx];exact zL (zL J K yd 0 _) I yd 0 _
  ·rcases yF k l.length with Y | Y
   ·rw[yz Y]at h1;rw[yz (by rw[G.o.n];exact Y)]at h2;exact⟨A (G.o.k k q p h1 h2).1,A (G.o.k k q p h1 h2).2⟩
   ·have Z:k=l.length:=by
     have:=(yh.1 h1).1;simp at this;omega
    subst Z;simp at h1;rw[<- G.o.n]at h2;simp at h2;subst h1 h2;exact⟨A HA.o.1,A HA.o.2⟩
 ·exact((((Yk.qz Q).trans (Yk.grown H yo D)).trans (Yk.set K hN.2 hE.2.2.1 (.inr (.inr rfl)) 0 _))).trans (Yk.set I hN.1 hE.1 (.inr (.inl rfl)) 0 _)
theorem zsz (N E:Nat)(lim:Int)(c8 c7 c6 c3:Nat)(hN:N<=c8/\N<=c6)(hE:c8<E/\c7<E/\c6<E/\c3<E) :
  zpe 64 #[] #[.p c8,.p c7,.p c6,.p c3] N E (zb7 lim) (PlI E lim c8 c7 c6 c3) :=
 ⟨z0a,fun _ _ _ h hb=>h.below hb,fun l r W va vb hI hs hl hEW ha hb=>zzm N E lim c8 c7 c6 c3 hN hE l r W va vb hI hs hl hEW ha hb⟩
def AllFn (pb:Nat)(w:World)(e:Ending)(w':World):Prop:=∃ cp,e=.r (.func (.func 150) #[] #[.p cp])/\Blk w' cp 158 #[.p pb]/\Below w.heap.size w w'/\w.heap.size<=cp
theorem all_any (pb:Nat)(w:World):Calls prog 108 #[.p pb] w (AllFn pb w):=by
 have D:∀ (fn:Fn) (first cap:Array Value) (w:World),(Instr.makeFunc fn first cap).run prog w=.ok (.func fn first cap) w:=fun _ _ _ _=>rfl;have A:=zH (show AllFn pb w (.r (.func (.func 150) #[] #[.p w.heap.size])) (w.alloc (.k #[.p pb] 158))from⟨_,rfl,Blk.newAt rfl,yB.alloc yL _,yr _⟩);go_enter func108,ntmps108;go_wp2;go_ret;exact A.o
theorem zs2 (rp pb:Nat)(w:World)(h:Blk w rp 162 #[.p pb]):Calls prog 63 #[.p rp] w (AllFn pb w):=by
 have G:=h.cell;have hl:=h.lt;clear h;go_enter func63,ntmps63;go_wp2_with fail;refine(all_any pb w).mono ?_;rintro e E ⟨D,rfl,h1,h2,h3⟩;have A:=zH (show AllFn pb w (.r (.func (.func 150) #[] #[.p D])) E from⟨_,rfl,h1,h2,h3⟩);clear h1 h2 h3;go_wp2;go_ret;exact A.o
structure WfAll (C:AX):Prop where
 c:AXok C
 r:WfRp C.P
 l:WfLk C.P
 io:∀ (k:Nat) (i:In),C.P.code[k]?=some i->InOk i
theorem ztl (args:Array Value)(w:World):(callFunc 150 args).run prog w=.ok (.enter 150 args) w:=enters_of func150 yk rfl args w
def ziv (most:Int):Int:=if most<0 then 5000 else most
def zmm (P:Pr)(most:Int)(w:World)(e:Ending)(w':World):Prop :=
 ∃ rs v ps,zgh P rs/\e=.r (.tuple #[v,.i 0])/\zfu w' w.heap.size v (runY (zb7 (ziv most)) [] rs) ps/\Below w.heap.size w w'
theorem zfu.low {B':Nat}{ps:List (Value×Value)}(h:zfu W B v l ps)(hB:B'<=B):zfu W B' v l ps :=
 ⟨h.n,zm h.r hB,fun k r p h1 h2=>⟨zm (h.k k r p h1 h2).1 hB,zm (h.k k r p h1 h2).2 hB⟩⟩
theorem zzj (C:AX)(hW:WfAll C)(w:World)(hon:C.on w)(pp rp:Nat)(most:Int)(hp:Blk w pp 82 #[.p rp])(hr:Blk w rp 162 #[.p C.pb]) :
  Calls prog 28 #[.p pp,.i most] w (zmm C.P most w):=by
 have a7:∀ (fn:Fn) (first cap:Array Value) (w:World),(Instr.makeFunc fn first cap).run prog w=.ok (.func fn first cap) w:=fun _ _ _ _=>rfl;have a3:=hp.cell;have a4:=hp.lt;have W:pp<w.heap.size+1:=yo;have Y:pp<w.heap.size+1+1:=yo;have Z:pp<w.heap.size+1+1+1:=yo;have S:=zH hr;have a2:=zH hon;have U:=zH hW;clear hp hr hon hW;cases hneg:decide (most<0)
 ·have a5:¬ most<0:=of_decide_eq_false hneg;have HL:=zH (show ziv most=most by unfold ziv;rw[yg a5]);go_enter func28,ntmps28;go_wp2_with fail;have D:Below w.heap.size w ((((w.alloc (.k #[.i most] 3)).alloc (.k #[.z] 62)).alloc (.k #[.i 0] 3)).alloc (.k #[.bool false] 4)):=(((yB.alloc yL _).alloc yy _).alloc (by simp;omega) _).alloc (by simp;omega) _;have k3:Blk ((((w.alloc (.k #[.i most] 3)).alloc (.k #[.z] 62)).alloc (.k #[.i 0] 3)).alloc (.k #[.bool false] 4)) w.heap.size 3 #[.i most]:=(((Blk.newAt rfl).alloc _).alloc _).alloc _;have I:Blk ((((w.alloc (.k #[.i most] 3)).alloc (.k #[.z] 62)).alloc (.k #[.i 0] 3)).alloc (.k #[.bool false] 4)) (w.heap.size+1) 62 #[.z]:=((Blk.newAt yy).alloc _).alloc _;have J:Blk ((((w.alloc (.k #[.i most] 3)).alloc (.k #[.z] 62)).alloc (.k #[.i 0] 3)).alloc (.k #[.bool false] 4)) (w.heap.size+1+1) 3 #[.i 0]:=(Blk.newAt yy).alloc _;have L:Blk ((((w.alloc (.k #[.i most] 3)).alloc (.k #[.z] 62)).alloc (.k #[.i 0] 3)).alloc (.k #[.bool false] 4)) (w.heap.size+1+1+1) 4 #[.bool false]:=Blk.newAt yy;generalize (((w.alloc (.k #[.i most] 3)).alloc (.k #[.z] 62)).alloc (.k #[.i 0] 3)).alloc (.k #[.bool false] 4)=w4 at D k3 I J L |-;clear a3 a4 W Y Z;refine(zs2 rp C.pb w4 (S.o.below D S.o.lt)).mono ?_;rintro e R ⟨cp,rfl,Q,A,a1⟩;have G:=zH (D.trans (A.mono D.size));have HI:=zH (show PlI R.heap.size most (w.heap.size+1+1+1) (w.heap.size+1+1) (w.heap.size+1) w.heap.size [] R from⟨L.below A L.lt,J.below A J.lt,⟨.z,[],I.below A I.lt,rfl,yA _ _ _ _,fun k r p h _=>by simp at h⟩,k3.below A k3.lt⟩);have N:=zH (zpg (C.at_ w) (U.o.c.at_ a2.o) U.o.r U.o.l U.o.io R G.o cp Q 64 #[] #[.p (w.heap.size+1+1+1),.p (w.heap.size+1+1),.p (w.heap.size+1),.p w.heap.size] (zb7 most) (PlI R.heap.size most (w.heap.size+1+1+1) (w.heap.size+1+1) (w.heap.size+1) w.heap.size)
   (zsz w.heap.size R.heap.size most _ _ _ _ yo (yq ((L.below A L.lt).lt))) HI.o rfl)
  have eg:=ztl;clear Q A D k3 I J L a1;go_wp2_with fail;refine N.o.mono ?_;rintro e w6 ⟨rfl,hy,rs,O,_,J,⟨v,ps,I,H⟩,_⟩;obtain⟨va,vc,rfl⟩:=zZ H.r;have a0:=zH (show zmm C.P most w (.r (.tuple #[.slice va (runY (zb7 most) [] rs).length vc,.i 0])) w6.drew from⟨rs,_,ps,O,rfl,by rw[HL.o];exact(H.below (yn _ w6).drew yL).low G.o.size,(G.o.trans (hy.below G.o.size)).drew⟩);have E:=And.intro (I.drew.cell 0) (J.drew.cell 0);clear hy O J I H eg;go_wp2_with fail;refine rgl 3 (fun(W':World)=>W'.cell? (.a (w.heap.size+1) 0)=some (.slice va (runY (zb7 most) [] rs).length vc)/\W'.cell? (.a (w.heap.size+1+1) 0)=some (.i 0)) ?_
  iterate 3(refine tK 0 rfl E ?_)
  refine lst rfl fun K hK=>?_;go_simp;refine hK _ _ ?_;clear hK K E;go_wp2;exact ym (v:=.tuple #[.slice va (runY (zb7 most) [] rs).length vc,.i 0]) (by simp[results,results28,go_sem]) rfl a0.o
 ·have a6:most<0:=of_decide_eq_true hneg;have HL:=zH (show ziv most=5000 by unfold ziv;rw[yj a6]);go_enter func28,ntmps28;go_wp2_with fail;have D:Below w.heap.size w ((((w.alloc (.k #[.i 5000] 3)).alloc (.k #[.z] 62)).alloc (.k #[.i 0] 3)).alloc (.k #[.bool false] 4)):=(((yB.alloc yL _).alloc yy _).alloc (by simp;omega) _).alloc (by simp;omega) _;have k3:Blk ((((w.alloc (.k #[.i 5000] 3)).alloc (.k #[.z] 62)).alloc (.k #[.i 0] 3)).alloc (.k #[.bool false] 4)) w.heap.size 3 #[.i 5000]:=(((Blk.newAt rfl).alloc _).alloc _).alloc _;have I:Blk ((((w.alloc (.k #[.i 5000] 3)).alloc (.k #[.z] 62)).alloc (.k #[.i 0] 3)).alloc (.k #[.bool false] 4)) (w.heap.size+1) 62 #[.z]:=((Blk.newAt yy).alloc _).alloc _;have J:Blk ((((w.alloc (.k #[.i 5000] 3)).alloc (.k #[.z] 62)).alloc (.k #[.i 0] 3)).alloc (.k #[.bool false] 4)) (w.heap.size+1+1) 3 #[.i 0]:=(Blk.newAt yy).alloc _;have L:Blk ((((w.alloc (.k #[.i 5000] 3)).alloc (.k #[.z] 62)).alloc (.k #[.i 0] 3)).alloc (.k #[.bool false] 4)) (w.heap.size+1+1+1) 4 #[.bool false]:=Blk.newAt yy;generalize (((w.alloc (.k #[.i 5000] 3)).alloc (.k #[.z] 62)).alloc (.k #[.i 0] 3)).alloc (.k #[.bool false] 4)=w4 at D k3 I J L |-;clear a3 a4 W Y Z;refine(zs2 rp C.pb w4 (S.o.below D S.o.lt)).mono ?_;rintro e R ⟨cp,rfl,Q,A,a1⟩;have G:=zH (D.trans (A.mono D.size));have HI:=zH (show PlI R.heap.size 5000 (w.heap.size+1+1+1) (w.heap.size+1+1) (w.heap.size+1) w.heap.size [] R from⟨L.below A L.lt,J.below A J.lt,⟨.z,[],I.below A I.lt,rfl,yA _ _ _ _,fun k r p h _=>by simp at h⟩,k3.below A k3.lt⟩);have N:=zH (zpg (C.at_ w) (U.o.c.at_ a2.o) U.o.r U.o.l U.o.io R G.o cp Q 64 #[] #[.p (w.heap.size+1+1+1),.p (w.heap.size+1+1),.p (w.heap.size+1),.p w.heap.size] (zb7 5000) (PlI R.heap.size 5000 (w.heap.size+1+1+1) (w.heap.size+1+1) (w.heap.size+1) w.heap.size)
   (zsz w.heap.size R.heap.size 5000 _ _ _ _ yo (yq ((L.below A L.lt).lt))) HI.o rfl)
  have eg:=ztl;clear Q A D k3 I J L a1;go_wp2_with fail;refine N.o.mono ?_;rintro e w6 ⟨rfl,hy,rs,O,_,J,⟨v,ps,I,H⟩,_⟩;obtain⟨va,vc,rfl⟩:=zZ H.r;have a0:=zH (show zmm C.P most w (.r (.tuple #[.slice va (runY (zb7 5000) [] rs).length vc,.i 0])) w6.drew from⟨rs,_,ps,O,rfl,by rw[HL.o];exact(H.below (yn _ w6).drew yL).low G.o.size,(G.o.trans (hy.below G.o.size)).drew⟩);have E:=And.intro (I.drew.cell 0) (J.drew.cell 0);clear hy O J I H eg;go_wp2_with fail;refine rgl 3 (fun(W':World)=>W'.cell? (.a (w.heap.size+1) 0)=some (.slice va (runY (zb7 5000) [] rs).length vc)/\W'.cell? (.a (w.heap.size+1+1) 0)=some (.i 0)) ?_
  iterate 3(refine tK 0 rfl E ?_)
  refine lst rfl fun K hK=>?_;go_simp;refine hK _ _ ?_;clear hK K E;go_wp2;exact ym (v:=.tuple #[.slice va (runY (zb7 5000) [] rs).length vc,.i 0]) (by simp[results,results28,go_sem]) rfl a0.o
end Go.Proofs.YtkmcihhndgdhpaaGreat
