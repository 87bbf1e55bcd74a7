/- Parts of the walk. -/
import Derived.Test.YtkmcihhndgdhpaaGreatWC9
import Derived.Test.YtkmcihhndgdhpaaGreatWD3
set_option maxRecDepth 100000
set_option maxHeartbeats 4000000
set_option linter.unusedSimpArgs false
set_option linter.unusedVariables false
open Go.ChangeMaps Go.Maps Go.RowKit Go.Shelf Go.Proofs.Tryz
namespace Go.Proofs.YtkmcihhndgdhpaaGreat
variable {P:Pr}
structure FdIn (C:AX)(B:World)(n:Nat)(tv:Value)(R P:List Hd)(W:World):Prop where
 t:Td C tv R P W
 g:∀ e ∈ R,zeo C.P n e.M
 b:Below B.heap.size B W
def FdRel (C:AX)(B:World)(gk:Nat)(v7 v9:Value)(W:World):Prop :=
 ∃ (n:Nat) (R P:List Hd),gk=400-n/\v9=.i n/\n<=400/\FdIn C B n v7 R P W/\R.length<=1+6*n/\zgc C.P (400-n) n (R.map Hd.M)=true
def FdIn2 (C:AX)(B:World)(n L:Nat)(e0:Hd)(R0:List Hd)(gk:Nat)(v7 v12:Value)(W:World):Prop :=
 ∃ (j:Nat) (R P:List Hd),gk=L-j/\v12=.i j/\j<=L/\FdIn C B (n+1) v7 (R0++R) P W/\e0 ∈ P/\R.map Hd.M=(List.range j).map (fun(j:Nat)=>(za6 C.P e0.M (j:Int)).1)
theorem z02 {f n:Nat}{todo:List Mc}(hne:todo≠[])(h:zgc P (f+1) n todo=true):(∀ m ∈ (tryM P n todo).2,m.races=[])/\zgc P f (n+1) ((tryM P n todo).1++(tryM P n todo).2)=true:=by
 cases todo with
 | nil=>exact absurd rfl hne
 | cons a l =>
  unfold zgc at h;simp only at h;split at h
  ·rename_i h1;refine⟨fun m hm=>?_,h⟩;have:=yaj.1 h1 m hm;simpa using this
  ·cases h
theorem zzu {M:Mc}(h:WfM P M):(zex P M).length<=6:=by
 have h1:=ycf (mayM P M) (List.range M.qd.length);have h2:=h.n.2;simp only[ycz]at h1;exact ya h1 h2
theorem tmod3 (n:Nat):(n:Int).tmod 3=((n % 3:Nat):Int):=(Int.ofNat_tmod n 3).symm
def fdK (n L:Nat):Nat:=if n % 3=0 then L-1 else 0
theorem zy0 {lab:Lab}{N:Nat}{w1 w2:World}(h:∀ eb,Out lab eb w1 w2)(hN:N<=w1.heap.size)(hl:∀ k,k<N->lab k=.out):Below N w1 w2:=by
 have ho:=h 0;have D:=h 1;refine⟨ho.os,ho.tape,ho.output,ho.size,fun k A=>?_⟩;have h1:k<w1.heap.size:=yi A hN;by_cases E:k=0
 ·exact D.block k h1 (hl k A) yo
 ·exact ho.block k h1 (hl k A) E
theorem PM.outs {lab:Lab}{w1 w2:World}{q r mb:Nat}(h:∀ eb,Out lab eb w1 w2)(p:PM w1 q r mb)(hq:lab q=.out)(hr:lab r=.out):PM w2 q r mb:=by
 have key:∀ {b t:Nat} {cs:Array Value},Blk w1 b t cs->lab b=.out->Blk w2 b t cs:=fun {b t cs} hb hl=>by
  unfold Blk at hb |-;by_cases A:b=0
  ·rw[(h 1).block b (Blk.lt hb) hl yo];exact hb
  ·rw[(h 0).block b (Blk.lt hb) hl A];exact hb
 exact⟨key p.q hq,key p.r hr⟩
theorem zxd (S:ByteArray)(P:Pr)(hP:z8 S=.ok P)(hW:WfP P)(hK:zu P)(ht:zgc P 400 0 [zef P]=true)(w:World) :
  Calls prog 24 #[.string S] w fun e w'=>e=.r (.bool true)/\Below w.heap.size w w':=by
 have HR:=zH (fun(W:World)=>zn9 S P hP W);have HW:=zH hW;have HK:=zH hK;have HT:=zH ht;clear hP hW hK ht;go_enter func24,ntmps24;go_wp2_with fail;refine(HR.o _).mono ?_;rintro e w3 ⟨pp,rp,pb,rfl,hp,hr,dz,cw⟩;obtain⟨X,hX⟩:=dz;obtain⟨fg,fcap,cg,ccap,cu⟩:=hX.ax HW.o.p;have an:=zH cw;obtain⟨C,hC⟩:∃ C:AX,C=⟨w3,w.heap.size,pb,P,X,fg,fcap,cg,ccap⟩:=⟨_,rfl⟩;have a1:=zH (show WfAll C by rw[hC];exact⟨cu,HW.o.r,HW.o.l,HW.o.io⟩);have J:=zH (show C.P=P by rw[hC]);have br:=zH (show C.pb=pb by rw[hC]);have aq:=zH (show C.w0=w3 by rw[hC]);have cf:=zH (zns C a1.o w3 (by rw[hC];exact yn _ _) pp rp hp (by rw[hC];exact hr));have bh:=zH hp;have bi:=zH hr;clear hp hr hX cu cw hC;go_wp2_with fail;refine cf.o.mono ?_;rintro e w4 ⟨rs,v2,e9,dp,rfl,ct,ad⟩;obtain⟨a2,c2,rfl⟩:=zZ ct.r;have a4:=zH ad;have ca:=zH (bh.o.below ad bh.o.lt);have cd:=zH (bi.o.below ad bi.o.lt);have HS:=zH (zzk (C:=C) a1.o.c (by rw[J.o];exact HK.o) (w:=w4) (by rw[AX.on,aq.o];exact ad) ca.o (by rw[br.o];exact cd.o));have co:=zH (show w.heap.size<=C.w0.heap.size by rw[aq.o];exact an.o.size);clear dp ct ad;go_wp2_with fail;refine HS.o.mono ?_;rintro e w5 ⟨q,r,mb,lab,V,rfl,a0,D,bn,hq,hr,b3,b4,b2⟩;have bg:=zH (show C.on w5 by rw[AX.on,aq.o];exact a4.o.trans (bn.mono a4.o.size));have c4:=zH D;have Y:=zH a0;have ao:=zH (an.o.trans (((a4.o.trans (bn.mono a4.o.size))).mono an.o.size));clear a0 D bn hq hr b3 b4 b2;have K:=zH (show Td C (.z) [] [] w5 from⟨⟨bg.o,nofun⟩,yA _ _ _ _,nofun,nofun⟩);go_wp2_with (refine ze2 tyPM rfl _ _ rfl C.w0.heap.size _ 0 [] w5.heap.size _ _ (K.o.r.alloc _) (Blk.newAt rfl) rfl rfl rfl yE yo (by have:=bg.o.size;simp;omega) ?_;intro g5 c5 w6 I Z ac);have ck:=zH ((K.o.below ((yn w5.heap.size w5).alloc yL _)).push (e:=⟨q,r,mb,lab,V,zef C.P⟩) (c4.o.alloc _) ⟨Y.o.q.alloc _,Y.o.r.alloc _⟩ nofun I Z ac);have de:=zH (show Below w.heap.size w w6 from(ao.o.alloc ao.o.size _).grown Z (by have:=ao.o.size;simp;omega) nofun);clear I Z ac;have bj:=zH (show FdRel C w 400 (.s g5 1 c5) (.i 0) w6 from⟨0,_,_,rfl,rfl,yD _,⟨ck.o,fun e H=>by
  simp at H;subst H;rw[J.o];exact zxm HK.o HW.o.p.main,de.o⟩,by simp,by simp[J.o,HT.o]⟩)
 clear HT ck K c4 Y HS cf HR bh bi ca cd bg an a4 ao aq br;go_wp2_with fail;go_loopg [7,9] 400 (fun gk v7 v9 wr=>FdRel C w gk v7 v9 wr)
 case atStart=>exact bj.o
 case round =>
  obtain⟨n,R,Pl,Z,rfl,hn,hI,b9,dc⟩:=hrel;obtain⟨a7,c7,rfl⟩:=zZ hI.t.r;have HG:=zH Z;have A:=zH hI;have b5:=zH b9;have cn:=zH dc;have a5:=zH hI.b;clear Z hI b9 dc;by_cases dy:n<400
  ·by_cases ah:R=[]
   ·subst ah;have bd:=zH a5.o;go_wp2;go_ret;exact⟨rfl,bd.o⟩
   ·have d7:0<R.length:=List.length_pos_iff.2 ah;obtain⟨g7,c8,hv,_,d1⟩:=A.o.t.r.form d7;injection hv with e1 e2 e3;subst e1 e3;have e8:(0:Int)<(R.length:Int):=yo;have e7:(n:Int)<400:=yo;have WR:=zH (show wrap64 ((R.length:Int)-1)=((R.length-1:Nat):Int) by rw[IntWalk.wrap64_in _ (yq b5.o)];omega);go_upto_if 52 with fail
    go_cut [10] (fun v10 wx=>v10=.i ((fdK n R.length:Nat):Int)/\wx=wr)
    case first =>
     have e5:=zH ah;clear ah;by_cases h3:n % 3=0
     ·have hm:((n:Int).tmod 3==0)=true:=by
       rw[tmod3,h3];rfl
      go_wp2;go_meet;exact⟨by rw[fdK,yj h3,WR.o],rfl⟩
     ·have hm:((n:Int).tmod 3==0)=false:=by
       rw[tmod3];simp;omega
      go_wp2;go_meet;exact⟨by rw[fdK,yg h3];rfl,rfl⟩
    case rest =>
     obtain⟨rfl,rfl⟩:=hcut;have b1:fdK n R.length<R.length:=by unfold fdK;split <;> omega
     obtain⟨k,hk⟩:∃ k,fdK n R.length=k:=⟨_,rfl⟩;rw[hk]at b1 |-;obtain⟨e0,ae⟩:∃ e,R[k]?=some e:=⟨_,yc b1⟩;obtain⟨e1,af⟩:∃ e,R[R.length-1]?=some e:=⟨_,yc yo⟩;have cz:wc.cell? (.a g7 k)=some (hndV e0):=by
      have:=A.o.t.r.cellAt k (by rw[yci];exact b1);rw[this,yV,ae];rfl
     have d0:wc.cell? (.a g7 (R.length-1))=some (hndV e1):=by
      have:=A.o.t.r.cellAt (R.length-1) (by rw[yci];omega);rw[this,yV,af];rfl
     have dt:(k:Int)<(R.length:Int):=yo;have du:=WR.o;have dw:((R.length-1:Nat):Int)<(R.length:Int):=yo;unfold hndV at cz d0;have dr:=A.o.t.r.frozenAt k;have dq:((R.length-1:Nat):Int)<=(c7:Int):=yq (zs7 A.o.t.r);have cs:e0 ∈ Pl:=A.o.t.s e0 (yl ae);obtain⟨R0,aw⟩:∃ R0,(R.set k e1).dropLast=R0:=⟨_,rfl⟩;have d5:R.length-1=R0.length:=by rw[<- aw];simp
     have ay:=(A.o.t.qe k (A.o.t.s e1 (yl af))).cut;rw[aw]at ay;have d2:∀ e ∈ R0,zeo C.P n e.M:=fun e H=>by
      rw[<- aw]at H;rcases ya2 (List.dropLast_subset _ H)with h | h
      ·exact A.o.g e h
      ·rw[h];exact A.o.g e1 (yl af)
     have bm:Below w.heap.size w (wc.setCell (.a g7 k) (hndV e1)):=a5.o.grown (A.o.t.r.stored k (hndV e1)).2 a5.o.size (fun q hq=>ya co.o (A.o.t.r.lt q hq).1);have d3:=A.o.g e0 (yl ae);have bb:tryM C.P n (R.map Hd.M)=(R0.map Hd.M,(List.range (zex C.P e0.M).length).map (fun(j:Nat)=>(za6 C.P e0.M (j:Int)).1)):=by
      unfold tryM;simp only[ybd,yV,yar];rw[show(if n % 3=0 then R.length-1 else 0)=k from hk,ae,af,<- aw];simp[List.map_dropLast,yco]
     have aj:=z02 (f:=400-(n+1)) (fun h=>ah (List.map_eq_nil_iff.1 h)) (by rw[show 400-(n+1)+1=400-n by omega];exact cn.o);rw[bb]at aj;unfold hndV at ay bm;have a6:=zH ay;have df:=zH d2;have am:=zH bm;have N:=zH d3;have aa:=zH aj;have bz:=zH d5;have K:=zH cs;clear ay d2 bm d3 aj bb hk ae af d5 cs cn;go_upto_region 19 with fail
     rw[bz.o];clear cz d0 dt du dw dr dq d1 b1 A a5 WR;generalize wc.setCell (.a g7 k) (.p e1.q)=w7 at a6 am |-;have ce:=zH (zzi a1.o.c (by rw[J.o];exact HK.o) N.o.w (a6.o.p.h e0 K.o).1 (a6.o.p.h e0 K.o).2);go_wp2_with fail;refine ce.o.mono ?_;rintro e w8 ⟨v8,rfl,ai,_,bo⟩;obtain⟨a8,c8,rfl⟩:=zZ ai;have cm:=zH (a6.o.below bo);have bq:=zH (am.o.trans (bo.mono am.o.size));have au:=zH (zzu N.o.w);obtain⟨L,hL⟩:∃ L,(zex C.P e0.M).length=L:=⟨_,rfl⟩;rw[hL]at aa au |-;have cp:=zH (show FdIn2 C w n L e0 R0 L (.s g7 R0.length c7) (.i 0) w8 from⟨0,[],Pl,rfl,rfl,yD _,by rw[ya9];exact⟨cm.o,fun e H=>(df.o e H).le (ya3 _),bq.o⟩,K.o,rfl⟩);clear ai bo a6 ce cm bq am hL;go_wp2_with fail;go_loopg [7,12] L (fun gk v7 v12 wr=>FdIn2 C w n L e0 R0 gk v7 v12 wr)
     case atStart=>exact cp.o
     case round =>
      obtain⟨j,R1,P1,Z,rfl,hj,hI,H,ag⟩:=hrel;obtain⟨RR,ax⟩:∃ RR,R0++R1=RR:=⟨_,rfl⟩;rw[ax]at hI;obtain⟨a9,c9,rfl⟩:=zZ hI.t.r;have dx:R1.length=j:=by simpa using congrArg List.length ag
      have ci:=zH ax;have c0:=zH (show RR.length<=1+6*(n+1) by rw[<- ax,yx];have:=bz.o;have:=b5.o;have:=au.o;omega);have dg:=zH Z;have A:=zH hI;have bf:=zH H;have c6:=zH ag;clear Z hI H ag ax dx;by_cases d4:j<L
      ·have e6:(j:Int)<(L:Int):=yo;have bu:=zH (zzg a1.o.c (by rw[J.o];exact HK.o) N.o.w (A.o.t.p.h e0 bf.o).1 (A.o.t.p.h e0 bf.o).2);go_wp2_with fail;refine bu.o.mono ?_;rintro e w9 ⟨q2,r2,bp,e4,V2,rfl,a0,D,cx,d8,da,b3,b4,b2⟩;have cj:=zH (zzl a1.o.c (by rw[J.o];exact HK.o) D N.o.w N.o.j (yq N.o.s) (j:Int) (by unfold iw;have:=au.o;omega) a0);have Y:=zH a0;have ap:=zH cx;have HQ:=zH (And.intro d8 da);have HL:=zH (And.intro b3 (And.intro b4 b2));clear a0 D cx d8 da b3 b4 b2 bu;go_wp2_with fail;refine cj.o.mono ?_;rintro e ea ⟨rfl,U,V3,D,d6,ho⟩;have d9:(za6 C.P e0.M (j:Int)).1.races=[]:=aa.o.1 _ (yae.2 ⟨j,yaf.2 d4,rfl⟩);have az:=N.o.step (by rw[J.o];exact HK.o) (j:Int) d9;obtain⟨M3,bk⟩:∃ M3,(za6 C.P e0.M (j:Int)).1=M3:=⟨_,rfl⟩;rw[bk]at D az;have cy:=ap.o.trans (zy0 ho ap.o.size HL.o.2.2);have E:=zH (Y.o.outs ho HL.o.1 HL.o.2.1);have di:=zH (show ∀ k,k<wr.heap.size->U k=.out from fun k hk=>(d6 k (yi hk ap.o.size)).trans (HL.o.2.2 k hk));have cc:=zH (zy1 D az.no E.o);have b6:=zH D;have be:=zH cy;have dh:=zH az;have dk:=zH bk;clear D d6 ho d9 az cy bk cj ap Y HL HQ;go_wp2_with fail;refine cc.o.mono ?_;rintro e ak ⟨rfl,G⟩;have c3:=zH (b6.o.below G);have b7:=zH (show PM ak q2 r2 bp from⟨E.o.q.below G E.o.q.lt,E.o.r.below G E.o.r.lt⟩);have O:=be.o.trans (G.mono be.o.size);have Q:=zH (A.o.t.below O);have a3:=zH (A.o.b.trans (O.mono A.o.b.size));have ch:=zH (zzw (.slice a2 (runY (zb7 5000) [] rs).length c2) ak);have dj:=zH (show ∀ k,(Value.slice a9 RR.length c9).ownBlock=some k->U k=.out from fun k hk=>di.o k (A.o.t.r.lt k hk).2);clear G O b6 E be cc;go_wp2_with fail;refine ch.o.mono ?_;rintro e dd ⟨rfl,rfl⟩;clear ch;go_wp2_with (refine ze2 tyPM rfl _ _ rfl C.w0.heap.size _ RR.length (RR.map hndV) ak.heap.size _ _ (Q.o.r.alloc _) (Blk.newAt rfl) rfl rfl rfl yE (yq c0.o) (by have:=Q.o.p.b.size;simp;omega) ?_;intro dn dm dd I Z ac);have ab:=(Q.o.below ((yn ak.heap.size ak).alloc yL _)).push (e:=⟨q2,r2,bp,U,V3,M3⟩) (c3.o.alloc _) ⟨b7.o.q.alloc _,b7.o.r.alloc _⟩ dj.o I Z ac;have b8:=(a3.o.alloc a3.o.size (.k #[.p q2] 40)).grown Z (by have:=a3.o.size;simp;omega) (fun k e=>ya co.o (Q.o.r.lt k e).1);have cq:=zH (show FdIn2 C w n L e0 R0 (L-(j+1)) (.s dn (RR.length+1) dm) (.i ((j+1:Nat):Int)) dd from
        ⟨j+1,R1++[⟨q2,r2,bp,U,V3,M3⟩],_,rfl,rfl,d4,by
         rw[<- ya7,ci.o];refine⟨by rw[yx]at ab;exact ab,fun e H=>?_,b8⟩;rcases yu.1 H with H | H
         ·exact A.o.g e H
         ·simp at H;subst H;exact dh.o,List.mem_append_left _ bf.o,by rw[yat,c6.o,List.range_succ,yat];simp[dk.o]⟩)
       clear I Z ac ab b8;go_wp2;go_roundg (L-(j+1))
       case measure=>have:=dg.o;omega
       case rel=>rw[zdj (yq au.o)];exact cq.o
      ·obtain rfl:j=L:=yo;have bj:=zH (show FdRel C w (400-(n+1)) (.slice a9 RR.length c9) (.i ((n+1:Nat):Int)) wr from
        ⟨n+1,RR,P1,rfl,rfl,dy,A.o,c0.o,by rw[<- ci.o,yat,c6.o];exact aa.o.2⟩)
       go_wp2;go_roundg (400-(n+1))
       case measure=>have:=HG.o;omega
       case rel=>rw[show(n:Int)+1=((n+1:Nat):Int) by omega];exact bj.o
  ·obtain rfl:n=400:=yo;have bd:=zH a5.o;go_wp2;go_ret;exact⟨rfl,bd.o⟩
def zed:List UInt8:=[118,97,114,32,103,59,118,97,114,32,104,59,109,117,116,101,120,32,109,59,109,117,116,101,120,32,110,59]
def tmsL (l:List UInt8):Nat->List UInt8
 | 0=>[]
 | n+1=>tmsL l n++l
theorem zp3 (a b:List UInt8):bytes a++bytes b=bytes (a++b):=by
 unfold bytes;apply ByteArray.ext;rw[ByteArray.data_append];simp
theorem zt1 (l:List UInt8):∀ n,zbb (bytes l) n=bytes (tmsL l n)
 | 0=>rfl
 | n+1=>by rw[zbb,zt1 l n,tmsL,zp3]
def qk0:List UInt8:=[108,111,99,107,32,109,59,120,61,103,59,120,61,120,43,49,59,103,61,120,59,117,110,108,111,99,107,32,109,59]
def qt0 (n:Nat):List UInt8:=zed++[102,117,110,99,32,119,40,41,123]++tmsL qk0 (n+1)++[125,102,117,110,99,32,109,97,105,110,40,41,123,103,111,32,119,40,41,59,103,111,32,119,40,41,59]++tmsL qk0 (n+1)++[125]
def qk1:List UInt8:=[103,61,49,59,120,61,103,59]
def qt1 (n:Nat):List UInt8:=zed++[102,117,110,99,32,119,40,41,123]++tmsL qk1 (n+1)++[125,102,117,110,99,32,109,97,105,110,40,41,123]++tmsL qk1 (n+1)++[116,61,103,111,32,119,40,41,59,106,111,105,110,32,116,59]++tmsL qk1 (n+1)++[125]
def qk2:List UInt8:=[120,61,103,59]
def qt2 (n:Nat):List UInt8:=zed++[102,117,110,99,32,119,40,41,123,103,61,49,59,125,102,117,110,99,32,102,40,41,123,103,61,50,59,125,102,117,110,99,32,109,97,105,110,40,41,123,116,61,103,111,32,119,40,41,59,106,111,105,110,32,116,59,117,61,103,111,32,102,40,41,59,106,111,105,110,32,117,59]++tmsL qk2 n++[125]
def qk3:List UInt8:=[120,61,111,46,108,59,111,46,114,61,120,59]
def qt3 (n:Nat):List UInt8:=zed++[102,117,110,99,32,119,40,41,123,111,61,110,101,119,59,111,46,108,61,49,59]++tmsL qk3 n++[125,102,117,110,99,32,109,97,105,110,40,41,123,103,111,32,119,40,41,59,103,111,32,119,40,41,59,119,40,41,59,125]
def qk4:List UInt8:=[103,111,32,119,40,41,59]
def qt4 (n:Nat):List UInt8:=zed++[102,117,110,99,32,119,40,41,123,120,61,103,59,125,102,117,110,99,32,109,97,105,110,40,41,123,103,61,51,59]++tmsL qk4 (n+1)++[120,61,103,59,125]
def qk5:List UInt8:=[111,46,114,61,49,59]
def qt5 (n:Nat):List UInt8:=zed++[102,117,110,99,32,119,40,112,41,123,120,61,112,46,108,59,112,46,114,61,120,59,125,102,117,110,99,32,109,97,105,110,40,41,123,111,61,110,101,119,59,111,46,108,61,53,59]++tmsL qk5 n++[103,111,32,119,40,111,41,59,125]
def qk6:List UInt8:=[120,61,103,59]
def qt6 (n:Nat):List UInt8:=zed++[102,117,110,99,32,102,40,41,123,103,61,49,59]++tmsL qk6 n++[125,102,117,110,99,32,119,40,41,123,108,111,99,107,32,109,59,102,40,41,59,117,110,108,111,99,107,32,109,59,125,102,117,110,99,32,109,97,105,110,40,41,123,103,111,32,119,40,41,59,108,111,99,107,32,109,59,102,40,41,59,117,110,108,111,99,107,32,109,59,125]
def qk7:List UInt8:=[97,40,41,59,120,61,103,59,98,40,41,59]
def qt7 (n:Nat):List UInt8:=zed++[102,117,110,99,32,97,40,41,123,108,111,99,107,32,109,59,125,102,117,110,99,32,98,40,41,123,117,110,108,111,99,107,32,109,59,125,102,117,110,99,32,119,40,41,123,97,40,41,59,103,61,49,59,98,40,41,59,125,102,117,110,99,32,109,97,105,110,40,41,123,103,111,32,119,40,41,59]++tmsL qk7 (n+1)++[125]
def qk8:List UInt8:=[103,61,50,59]
def qt8 (n:Nat):List UInt8:=zed++[102,117,110,99,32,119,40,41,123,108,111,99,107,32,110,59,108,111,99,107,32,109,59,103,61,49,59,117,110,108,111,99,107,32,110,59,117,110,108,111,99,107,32,109,59,125,102,117,110,99,32,109,97,105,110,40,41,123,103,111,32,119,40,41,59,108,111,99,107,32,109,59]++tmsL qk8 (n+1)++[117,110,108,111,99,107,32,109,59,125]
def qk9:List UInt8:=[104,61,49,59,120,61,104,59]
def qt9 (n:Nat):List UInt8:=zed++[102,117,110,99,32,119,40,41,123,103,61,49,59,125,102,117,110,99,32,109,97,105,110,40,41,123,103,111,32,119,40,41,59]++tmsL qk9 (n+1)++[125]
def qk10:List UInt8:=[120,61,103,59]
def qt10 (n:Nat):List UInt8:=zed++[102,117,110,99,32,119,40,112,41,123,105,102,32,112,123,108,111,99,107,32,109,59,125,101,108,115,101,123,108,111,99,107,32,109,59,125,103,61,49,59,117,110,108,111,99,107,32,109,59,125,102,117,110,99,32,109,97,105,110,40,41,123,103,111,32,119,40,49,41,59,103,111,32,119,40,48,41,59,108,111,99,107,32,109,59]++tmsL qk10 (n+1)++[117,110,108,111,99,107,32,109,59,125]
def qk11:List UInt8:=[111,46,114,61,49,59,120,61,111,46,114,59]
def qt11 (n:Nat):List UInt8:=zed++[102,117,110,99,32,119,40,112,41,123,112,46,108,61,49,59,125,102,117,110,99,32,109,97,105,110,40,41,123,111,61,110,101,119,59,103,111,32,119,40,111,41,59]++tmsL qk11 (n+1)++[125]
def zhr (k n:Nat):List UInt8:=match k with
 | 0=>qt0 n
 | 1=>qt1 n
 | 2=>qt2 n
 | 3=>qt3 n
 | 4=>qt4 n
 | 5=>qt5 n
 | 6=>qt6 n
 | 7=>qt7 n
 | 8=>qt8 n
 | 9=>qt9 n
 | 10=>qt10 n
 | _=>qt11 n
theorem qfin {p:Prop}(h:p:=by go_enter func50,ntmps50;go_wp2_with fail;refine mHT.o.mono ?_;rintro e A ⟨rfl,rfl⟩;go_wp2;go_ret;refine⟨congrArg (fun s=>Ending.returned (.string s)) ?_,rfl⟩;rw[<- mHR.o];simp only[zhr,qt0,qt1,qt2,qt3,qt4,qt5,qt6,qt7,qt8,qt9,qt10,qt11,<- zp3,<- zt1];rfl):p:=h
def zc4 (k n:Nat)(w:World)(e:Ending)(w':World):Prop:=e=.r (.string (bytes (zhr k n)))/\w=w'
theorem calm0 (n:Nat)(hn:n<4)(w:World):Calls prog 50 #[.i 0,.i n] w (zc4 0 n w):=by
 have mHT:=zH (zeh (bytes qk0) (n+1) w yd yo);have E:wrap64 ((n:Int)+1)=((n+1:Nat):Int):=zdj yo;obtain⟨T,A⟩:∃ T,zbb (bytes qk0) (n+1)=T:=⟨_,rfl⟩;have D:T.size<=200:=by rw[<- A,zdg];exact ya (yac _ (show(n+1)<=4 by omega)) yd
 have z0:¬ 9223372036854775807<37+T.size:=yo;have G:¬ 9223372036854775807<37+T.size+27:=yo;have H:¬ 9223372036854775807<37+T.size+27+T.size:=yo;have I:¬ 9223372036854775807<37+T.size+27+T.size+1:=yo;have mHR:=zH A;rw[A]at mHT;clear A D hn;exact qfin
theorem calm1 (n:Nat)(hn:n<4)(w:World):Calls prog 50 #[.i 1,.i n] w (zc4 1 n w):=by
 have mHT:=zH (zeh (bytes qk1) (n+1) w yd yo);have E:wrap64 ((n:Int)+1)=((n+1:Nat):Int):=zdj yo;obtain⟨T,A⟩:∃ T,zbb (bytes qk1) (n+1)=T:=⟨_,rfl⟩;have D:T.size<=200:=by rw[<- A,zdg];exact ya (yac _ (show(n+1)<=4 by omega)) yd
 have z0:¬ 9223372036854775807<37+T.size:=yo;have G:¬ 9223372036854775807<37+T.size+13:=yo;have H:¬ 9223372036854775807<37+T.size+13+T.size:=yo;have I:¬ 9223372036854775807<37+T.size+13+T.size+16:=yo;have J:¬ 9223372036854775807<37+T.size+13+T.size+16+T.size:=yo;have K:¬ 9223372036854775807<37+T.size+13+T.size+16+T.size+1:=yo;have mHR:=zH A;rw[A]at mHT;clear A D hn;exact qfin
theorem calm2 (n:Nat)(hn:n<4)(w:World):Calls prog 50 #[.i 2,.i n] w (zc4 2 n w):=by
 have mHT:=zH (zeh (bytes qk2) n w yd yo);obtain⟨T,A⟩:∃ T,zbb (bytes qk2) n=T:=⟨_,rfl⟩;have D:T.size<=200:=by rw[<- A,zdg];exact ya (yac _ (show n<=4 by omega)) yd
 have z0:¬ 9223372036854775807<100+T.size:=yo;have E:¬ 9223372036854775807<100+T.size+1:=yo;have mHR:=zH A;rw[A]at mHT;clear A D hn;exact qfin
theorem calm3 (n:Nat)(hn:n<4)(w:World):Calls prog 50 #[.i 3,.i n] w (zc4 3 n w):=by
 have mHT:=zH (zeh (bytes qk3) n w yd yo);obtain⟨T,A⟩:∃ T,zbb (bytes qk3) n=T:=⟨_,rfl⟩;have D:T.size<=200:=by rw[<- A,zdg];exact ya (yac _ (show n<=4 by omega)) yd
 have z0:¬ 9223372036854775807<49+T.size:=yo;have E:¬ 9223372036854775807<49+T.size+32:=yo;have mHR:=zH A;rw[A]at mHT;clear A D hn;exact qfin
theorem calm4 (n:Nat)(hn:n<4)(w:World):Calls prog 50 #[.i 4,.i n] w (zc4 4 n w):=by
 have mHT:=zH (zeh (bytes qk4) (n+1) w yd yo);have E:wrap64 ((n:Int)+1)=((n+1:Nat):Int):=zdj yo;obtain⟨T,A⟩:∃ T,zbb (bytes qk4) (n+1)=T:=⟨_,rfl⟩;have D:T.size<=200:=by rw[<- A,zdg];exact ya (yac _ (show(n+1)<=4 by omega)) yd
 have z0:¬ 9223372036854775807<58+T.size:=yo;have G:¬ 9223372036854775807<58+T.size+5:=yo;have mHR:=zH A;rw[A]at mHT;clear A D hn;exact qfin
theorem calm5 (n:Nat)(hn:n<4)(w:World):Calls prog 50 #[.i 5,.i n] w (zc4 5 n w):=by
 have mHT:=zH (zeh (bytes qk5) n w yd yo);obtain⟨T,A⟩:∃ T,zbb (bytes qk5) n=T:=⟨_,rfl⟩;have D:T.size<=200:=by rw[<- A,zdg];exact ya (yac _ (show n<=4 by omega)) yd
 have z0:¬ 9223372036854775807<75+T.size:=yo;have E:¬ 9223372036854775807<75+T.size+9:=yo;have mHR:=zH A;rw[A]at mHT;clear A D hn;exact qfin
theorem calm6 (n:Nat)(hn:n<4)(w:World):Calls prog 50 #[.i 6,.i n] w (zc4 6 n w):=by
 have mHT:=zH (zeh (bytes qk6) n w yd yo);obtain⟨T,A⟩:∃ T,zbb (bytes qk6) n=T:=⟨_,rfl⟩;have D:T.size<=200:=by rw[<- A,zdg];exact ya (yac _ (show n<=4 by omega)) yd
 have z0:¬ 9223372036854775807<41+T.size:=yo;have E:¬ 9223372036854775807<41+T.size+71:=yo;have mHR:=zH A;rw[A]at mHT;clear A D hn;exact qfin
theorem calm7 (n:Nat)(hn:n<4)(w:World):Calls prog 50 #[.i 7,.i n] w (zc4 7 n w):=by
 have mHT:=zH (zeh (bytes qk7) (n+1) w yd yo);have E:wrap64 ((n:Int)+1)=((n+1:Nat):Int):=zdj yo;obtain⟨T,A⟩:∃ T,zbb (bytes qk7) (n+1)=T:=⟨_,rfl⟩;have D:T.size<=200:=by rw[<- A,zdg];exact ya (yac _ (show(n+1)<=4 by omega)) yd
 have z0:¬ 9223372036854775807<105+T.size:=yo;have G:¬ 9223372036854775807<105+T.size+1:=yo;have mHR:=zH A;rw[A]at mHT;clear A D hn;exact qfin
theorem calm8 (n:Nat)(hn:n<4)(w:World):Calls prog 50 #[.i 8,.i n] w (zc4 8 n w):=by
 have mHT:=zH (zeh (bytes qk8) (n+1) w yd yo);have E:wrap64 ((n:Int)+1)=((n+1:Nat):Int):=zdj yo;obtain⟨T,A⟩:∃ T,zbb (bytes qk8) (n+1)=T:=⟨_,rfl⟩;have D:T.size<=200:=by rw[<- A,zdg];exact ya (yac _ (show(n+1)<=4 by omega)) yd
 have z0:¬ 9223372036854775807<100+T.size:=yo;have G:¬ 9223372036854775807<100+T.size+10:=yo;have mHR:=zH A;rw[A]at mHT;clear A D hn;exact qfin
theorem calm9 (n:Nat)(hn:n<4)(w:World):Calls prog 50 #[.i 9,.i n] w (zc4 9 n w):=by
 have mHT:=zH (zeh (bytes qk9) (n+1) w yd yo);have E:wrap64 ((n:Int)+1)=((n+1:Nat):Int):=zdj yo;obtain⟨T,A⟩:∃ T,zbb (bytes qk9) (n+1)=T:=⟨_,rfl⟩;have D:T.size<=200:=by rw[<- A,zdg];exact ya (yac _ (show(n+1)<=4 by omega)) yd
 have z0:¬ 9223372036854775807<61+T.size:=yo;have G:¬ 9223372036854775807<61+T.size+1:=yo;have mHR:=zH A;rw[A]at mHT;clear A D hn;exact qfin
theorem calm10 (n:Nat)(hn:n<4)(w:World):Calls prog 50 #[.i 10,.i n] w (zc4 10 n w):=by
 have mHT:=zH (zeh (bytes qk10) (n+1) w yd yo);have E:wrap64 ((n:Int)+1)=((n+1:Nat):Int):=zdj yo;obtain⟨T,A⟩:∃ T,zbb (bytes qk10) (n+1)=T:=⟨_,rfl⟩;have D:T.size<=200:=by rw[<- A,zdg];exact ya (yac _ (show(n+1)<=4 by omega)) yd
 have z0:¬ 9223372036854775807<113+T.size:=yo;have G:¬ 9223372036854775807<113+T.size+10:=yo;have mHR:=zH A;rw[A]at mHT;clear A D hn;exact qfin
theorem calm11 (n:Nat)(hn:n<4)(w:World):Calls prog 50 #[.i 11,.i n] w (zc4 11 n w):=by
 have mHT:=zH (zeh (bytes qk11) (n+1) w yd yo);have E:wrap64 ((n:Int)+1)=((n+1:Nat):Int):=zdj yo;obtain⟨T,A⟩:∃ T,zbb (bytes qk11) (n+1)=T:=⟨_,rfl⟩;have D:T.size<=200:=by rw[<- A,zdg];exact ya (yac _ (show(n+1)<=4 by omega)) yd
 have z0:¬ 9223372036854775807<71+T.size:=yo;have G:¬ 9223372036854775807<71+T.size+1:=yo;have mHR:=zH A;rw[A]at mHT;clear A D hn;exact qfin
theorem calm_any (k n:Nat)(hk:k<12)(hn:n<4)(w:World):Calls prog 50 #[.i k,.i n] w (zc4 k n w):=by
 match k,hk with
 | 0,_=>exact calm0 n hn w
 | 1,_=>exact calm1 n hn w
 | 2,_=>exact calm2 n hn w
 | 3,_=>exact calm3 n hn w
 | 4,_=>exact calm4 n hn w
 | 5,_=>exact calm5 n hn w
 | 6,_=>exact calm6 n hn w
 | 7,_=>exact calm7 n hn w
 | 8,_=>exact calm8 n hn w
 | 9,_=>exact calm9 n hn w
 | 10,_=>exact calm10 n hn w
 | 11,_=>exact calm11 n hn w
 | k+12,h=>omega
def iwB (n:Int):Bool:=decide (-9223372036854775808<=n)&&decide (n<=9223372036854775807)
theorem zjw {n:Int}(h:iwB n=true):iw n:=by
 unfold iwB at h;simp only[yH,decide_eq_true_eq]at h;exact h
def arB (L:Nat)(a:Ar):Bool:=a.c||decide (a.n<L)
theorem zms {L:Nat}{a:Ar}(h:arB L a=true):ArOk L a:=fun A=>by
 unfold arB at h;rw[A]at h;exact of_decide_eq_true h
def opB (i:In)(l:List Nat):Bool:=l.all fun o=>i.op != o
def insB (P:Pr)(L:Nat)(i:In):Bool :=
 (opB i [1,2,4,5,6]||decide (0<=i.x))&&decide (i.x<(L:Int))&&(opB i [1,13,14,3,4,5,12]||arB L i.y)&&(opB i [1]||arB L i.z)&&(opB i [8]||decide (i.y.n<L)) &&
 (opB i [7,11]||(i.args.all (arB L)&&(P.fs[i.call]?).any fun g=>decide (i.args.length<=g.locals)))&&(opB i [13,14,20]||(P.code[i.to]?).any fun j=>j.fn==i.fn) &&
 (decide (1<=i.op/\i.op<=14)||i.op==20)&&iwB i.place&&iwB i.var&&iwB i.y.n&&iwB i.z.n&&i.args.all fun a=>iwB a.n
theorem insB_ok {L:Nat}{i:In}(h:insB P L i=true):zi4 P L i:=by
 unfold insB opB at h;simp only[yH,yQ,yaj,decide_eq_true_eq,bne_iff_ne,ne_eq,beq_iff_eq,Option.any_eq_true]at h;obtain⟨⟨⟨⟨⟨⟨⟨⟨⟨⟨⟨⟨h1,h2⟩,h3⟩,h4⟩,h5⟩,h6⟩,h7⟩,h8⟩,G⟩,h10⟩,A⟩,D⟩,E⟩:=h;refine⟨fun ho=>?_,h2,fun ho=>?_,fun ho=>?_,fun ho=>?_,fun ho=>?_,fun ho=>?_,h8,zjw G,zjw h10,zjw A,zjw D,fun a ha=>zjw (E a ha)⟩
 ·exact h1.resolve_left fun hn=>hn i.op (by rcases ho with e | e | e | e | e <;> rw[e] <;> decide) rfl
 ·exact zms (h3.resolve_left fun hn=>hn i.op (by rcases ho with e | e | e | e | e | e | e <;> rw[e] <;> decide) rfl)
 ·exact zms (h4.resolve_left fun hn=>hn i.op (by rw[ho];decide) rfl)
 ·exact h5.resolve_left fun hn=>hn i.op (by rw[ho];decide) rfl
 ·obtain⟨a,b⟩:=h6.resolve_left fun hn=>hn i.op (by rcases ho with e | e <;> rw[e] <;> decide) rfl
  exact⟨fun x hx=>zms (a x hx),b⟩
 ·exact h7.resolve_left fun hn=>hn i.op (by rcases ho with e | e | e <;> rw[e] <;> decide) rfl
def codeB (P:Pr):Bool :=
 (List.range P.code.length).all (fun k=>(P.code[zah P P.code.length k]?).any fun i=>i.op != 20) &&
 (List.range P.code.length).all (fun k=>(P.code[k]?).all fun i=>(i.op != 20||decide (i.to<P.code.length))&&((P.fs[i.fn]?).any fun g=>insB P g.locals i)&&(i.op==12||i.op==20||(P.code[k+1]?).any fun j=>j.fn==i.fn)) &&
 (List.range P.fs.length).all fun k=>(P.fs[k]?).all fun g=>decide (g.locals<=6)&&(P.code[g.from_]?).any fun i=>i.fn==k
theorem codeB_ok (h:codeB P=true):zu P:=by
 unfold codeB at h;simp only[yH,yQ,yaj,yaf,decide_eq_true_eq,bne_iff_ne,ne_eq,beq_iff_eq,Option.any_eq_true,Option.all_eq_true]at h;obtain⟨⟨h1,h2⟩,h3⟩:=h;have A:∀ (k:Nat) (i:In),P.code[k]?=some i->k<P.code.length:=fun k i e=>(yh.1 e).1;refine⟨⟨h1,fun k i e ho=>?_⟩,fun k i e=>?_,fun k i e h12 h20=>?_,fun k g e=>?_⟩
 ·exact(h2 k (A k i e) i e).1.1.resolve_left fun hn=>hn ho
 ·obtain⟨g,D,hi⟩:=(h2 k (A k i e) i e).1.2;exact⟨g,D,insB_ok hi⟩
 ·exact(h2 k (A k i e) i e).2.resolve_left fun hn=>hn.elim h12 h20
 ·exact h3 k (yh.1 e).1 g e
def qtB (t:List UInt8):Bool:=match z8 (bytes t)with
 | .ok P=>wfB P&&codeB P&&decide (evA P=some [])&&zgc P 400 0 [zef P]
 | .error _=>false
theorem qtB_ok {t:List UInt8}(h:qtB t=true):∃ P,z8 (bytes t)=.ok P/\WfP P/\zu P/\(∀ rs,zgh P rs->rs=[])/\zgc P 400 0 [zef P]=true:=by
 unfold qtB at h;cases hl:z8 (bytes t)with
 | error f=>rw[hl]at h;cases h
 | ok P =>
  rw[hl]at h;simp only[yH]at h;exact⟨P,rfl,wfB_ok h.1.1.1,codeB_ok h.1.1.2,fun rs A=>evA_eq A (of_decide_eq_true h.1.2),h.2⟩
set_option maxRecDepth 100000
def qtAt (k:Nat):Bool:=(List.range 4).all fun n=>qtB (zhr k n)
theorem qtv0:qtAt 0=true:=yk
theorem qtv1:qtAt 1=true:=yk
theorem qtv2:qtAt 2=true:=yk
theorem qtv3:qtAt 3=true:=yk
theorem qtv4:qtAt 4=true:=yk
theorem qtv5:qtAt 5=true:=yk
theorem qtv6:qtAt 6=true:=yk
theorem qtv7:qtAt 7=true:=yk
theorem qtv8:qtAt 8=true:=yk
theorem qtv9:qtAt 9=true:=yk
theorem qtv10:qtAt 10=true:=yk
theorem qtv11:qtAt 11=true:=yk
theorem qt_ok {k n:Nat}(hk:k<12)(hn:n<4):∃ P,z8 (bytes (zhr k n))=.ok P/\WfP P/\zu P/\(∀ rs,zgh P rs->rs=[])/\zgc P 400 0 [zef P]=true:=by
 have h:qtAt k=true:=by
  match k,hk with
  | 0,_=>exact qtv0
  | 1,_=>exact qtv1
  | 2,_=>exact qtv2
  | 3,_=>exact qtv3
  | 4,_=>exact qtv4
  | 5,_=>exact qtv5
  | 6,_=>exact qtv6
  | 7,_=>exact qtv7
  | 8,_=>exact qtv8
  | 9,_=>exact qtv9
  | 10,_=>exact qtv10
  | 11,_=>exact qtv11
  | k+12,h=>omega
 exact qtB_ok (yaj.1 h n (yaf.2 hn))
def zmi (w:World)(e:Ending)(w':World):Prop:=e=.r (.bool true)/\Below w.heap.size w w'
def alText:List UInt8:=[118,97,114,32,103,59,102,117,110,99,32,119,40,41,123,103,61,49,59,125,102,117,110,99,32,109,97,105,110,40,41,123,103,111,32,119,40,41,59,103,61,50,59,125]
theorem al_chk:chkT alText [⟨0,2,-1,0,1,0,[],[]⟩]=true:=yk
theorem zu2 (w:World):Calls prog 22 #[] w (zmi w):=by
 obtain⟨P,R,U,S⟩:=chkT_ok al_chk;have HR:=zH (fun(W:World)=>zn9 (bytes alText) P R W);have HU:=zH S;have K:=zH U;clear R S U;go_enter func22,ntmps22;go_wp2_with fail;refine(HR.o w).mono ?_;rintro e w3 ⟨pp,rp,pb,rfl,L,Z,Q,H⟩;obtain⟨X,Y⟩:=Q;obtain⟨fg,fcap,cg,ccap,G⟩:=Y.ax K.o.p;have D:=zH H;have O:=zH (zns ⟨w3,w.heap.size,pb,P,X,fg,fcap,cg,ccap⟩ ⟨G,K.o.r,K.o.l,K.o.io⟩ w3 yB pp rp L Z);clear L Z Y G H;go_wp2_with fail;refine O.o.mono ?_;rintro e w4 ⟨rs,v2,J,E,rfl,A,I⟩;rw[HU.o rs E]at A;obtain⟨p,L⟩:∃ p,J=[p]:=by
  have:=A.n
  match J,this with
  | [p],_=>exact⟨p,rfl⟩
 subst L;obtain⟨g,c,hv,_,a0⟩:=A.r.form yd;subst hv;have c0:w4.cell? (.a g 0)=some (.i 0):=(A.r.cellAt 0 yd).trans rfl;have c1:w4.cell? (.a g 1)=some (.i 2):=(A.r.cellAt 1 yd).trans rfl;have N:=zH (D.o.trans (I.mono D.o.size));clear E A I;go_wp2;go_ret;exact⟨rfl,N.o⟩
theorem zzp (k n:Nat)(hk:k<12)(hn:n<4)(w:World):Calls prog 25 #[.i k,.i n] w (zmi w):=by
 obtain⟨P,R,U,hK,hU,hT⟩:=qt_ok hk hn;have O:=zH (calm_any k n hk hn w);have HR:=zH (fun(W:World)=>zn9 (bytes (zhr k n)) P R W);have Z:=zH (fun(W:World)=>zxd (bytes (zhr k n)) P R U hK hT W);have HU:=zH hU;have L:=zH U;clear R hU U hK hT hk hn;unfold zc4 at O;generalize bytes (zhr k n)=S at O HR Z;go_enter func25,ntmps25;go_wp2_with fail;refine O.o.mono ?_;rintro e w1 ⟨rfl,rfl⟩;go_wp2_with fail;refine(HR.o w).mono ?_;rintro e w3 ⟨pp,rp,pb,rfl,hp,hr,Y,I⟩;obtain⟨X,hX⟩:=Y;obtain⟨fg,fcap,cg,ccap,H⟩:=hX.ax L.o.p;have D:=zH I;have Q:=zH (zns ⟨w3,w.heap.size,pb,P,X,fg,fcap,cg,ccap⟩ ⟨H,L.o.r,L.o.l,L.o.io⟩ w3 yB pp rp hp hr);clear hp hr hX H I;go_wp2_with fail;refine Q.o.mono ?_;rintro e w4 ⟨rs,v2,a0,G,rfl,A,J⟩;rw[HU.o rs G]at A;obtain⟨a2,c2,rfl⟩:=zZ A.r;have E:=zH (D.o.trans (J.mono D.o.size));clear G A J;go_wp2_with fail;refine(Z.o w4).mono ?_;rintro e w5 ⟨rfl,K⟩;have N:=zH (E.o.trans (K.mono E.o.size));clear K;go_wp2;go_ret;exact⟨rfl,N.o⟩
theorem Quiet_any (c n:Int)(w:World)(h1:-9223372036854775808<=c/\c<=9223372036854775807)(h2:-9223372036854775808<=n/\n<=9223372036854775807):Calls prog 8 #[.i c,.i n] w (zmi w):=by
 have I:=zH (zu2 w);have E:=zH (fun(W:World)=>zsu c 12 W h1.1 h1.2 yo);have G:=zH (fun(W:World)=>zsu n 4 W h2.1 h2.2 yo);have K:=zH (fun(W:World) (k n:Nat) (H:k<12) (hn:n<4)=>zzp k n H hn W);go_enter func8,ntmps8;go_wp2_with fail;refine I.o.mono ?_;rintro e w0 ⟨rfl,D⟩;have A:=zH D;clear D;go_wp2_with fail;refine(E.o w0).mono ?_;rintro e L ⟨k,H,rfl,rfl⟩;go_wp2_with fail;refine(G.o w0).mono ?_;rintro e N ⟨m,hm,rfl,rfl⟩;go_wp2_with fail;refine(K.o w0 k m H hm).mono ?_;rintro e w3 ⟨rfl,hb⟩;have J:=zH (A.o.trans (hb.mono A.o.size));go_wp2;go_ret;exact⟨rfl,J.o⟩
end Go.Proofs.YtkmcihhndgdhpaaGreat
