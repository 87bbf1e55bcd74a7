/- Parts of the walk. -/
import Derived.Test.YtkmcihhndgdhpaaGreatWA7
set_option maxRecDepth 100000
set_option maxHeartbeats 4000000
set_option linter.unusedSimpArgs false
set_option linter.unusedVariables false
open Go.Maps Go.RowKit Go.Shelf Go.Proofs.Tryz
namespace Go.Proofs.YtkmcihhndgdhpaaGreat
variable {P:Pr}{r j:Nat}
theorem mAa {p:Prop}(h:p:=by
  clear hW4;have hlo4:=HQ.o.f.h.lo.lt;have hma4:=HQ.o.f.h.ma.lt;go_wp2_with fail;refine rgl 10 (fun w'=>w'.cell? (.a w0.heap.size 0)=some (.p V'.fb)/\(∀ i,w'.cell? (.a V'.fb i)=#[.p C.pb,.m V'.jf,V'.sv,V'.rv,V'.bv,.m V'.vz,.m V'.vu][i]?)/\(∀ i,w'.cell? (.a C.pb i)=(.c C:Array Value)[i]?)) ?_;have HQ5:=zH (HQ4.o.below (yn w4.heap.size w4).drew yL);have hHeld:=HQ5.o.rts;unfold RtS at hHeld
  iterate 6(refine tK 0 rfl hHeld ?_)
  refine rdy 6 rfl fun K hK=>?_;go_simp;have HQ6:=zH (HQ5.o.below ((yn w4.drew.heap.size w4.drew).alloc yL (.k #[.m mb4] 310)) yL);have HM6:=zH ((HM.o.drew).alloc (.k #[.m mb4] 310));refine hK.o _ _ HQ6.o.rts (fun hHeld=>?_);clear hK K;unfold RtS at hHeld;refine rdy 7 rfl fun K hK=>?_;refine zan zop rfl _ _ rfl C.w0.heap.size _ Rs.length (zgs Rs) w4.heap.size _ _ HQ6.o.f.r (Blk.newAt rfl) rfl rfl rfl yE (yq HRL.o) (by have:=HQ6.o.f.h.ve.size;exact this) ?_;intro g7 cap7 w7 hrow7 hg7 hat7;have HQ8:=zH (HQ6.o.root (m:=mb4) (g:=g7) (cap:=cap7) HM6.o (yq HMB.o) (yq HMB.o) (by rw[HRL.o]) hrow7 hg7 hat7);have HM8:=zH (show MkE w7 mb4 (rsB C.P (j+1))from HM6.o.qa (hg7.block _ HM6.o.lt (fun e=>by obtain⟨cs,hb⟩:=zr HQ6.o.f.r e.symm;exact HM6.o.qf hb rfl)));have HR7:=zH (HQ6.o.rtsR hg7);have hfb7:=(HQ6.o.f.grown HQ6.o.f.r hg7 yd).1.f;have HM9:=zH (HM8.o.farB hfb7 3 (.s g7 (Rs.length+1) cap7));have hfbf:=hfb7.frozen;have hfbl:=hfb7.lt;clear hfb7 hrow7 hg7 hat7 HQ4 HQ5 HQ6 HM6 HM8;refine hK.o _ _ HR7.o (fun hHeld=>?_);clear hK K;unfold RtS at hHeld
  iterate 2(refine tK 8 rfl hHeld ?_)
  refine lst rfl fun K hK=>?_;go_simp;refine hK _ _ ?_;clear hK K hHeld HR7 hfbf hfbl;generalize hW8:w7.setCell (.a V'.fb 3) (.s g7 (Rs.length+1) cap7)=w8 at HQ8 HM9 |-;clear hW8 HM;have hvc8:=HQ8.o.v.cell;obtain⟨hf8,hp8⟩:=HQ8.o.f.h.cells;simp only[HGV.o]at hp8
  dsimp only at hf8 hvc8
  have ST8:=zH (show RtIn C w vx w0.heap.size { V' with rv:=.s g7 (Rs.length+1) cap7 } (Rs++[mb4]) Bs mb4 j C.P.qg.length (zA 0) (.i 0) w8 from⟨⟨0,rfl,rfl,yD _,rfl⟩,HQ8.o,HM9.o⟩);clear HQ8 HM9;go_wp2_with fail;clear hvc8 hf8 hp8;go_loopg [5,80] C.P.qg.length (fun gk v5 v80 wr=>RtIn C w vx w0.heap.size { V' with rv:=.s g7 (Rs.length+1) cap7 } (Rs++[mb4]) Bs mb4 j gk v5 v80 wr)
  case atStart=>exact ST8.o
  case round =>
   rename_i wr1;obtain⟨⟨q,rfl,hgq,hq,rfl⟩,hP,hm⟩:=hrel;have HGQ:=zH hgq;have HP9:=zH hP;have HM9:=zH hm;have hvc9:=hP.v.cell;obtain⟨hf9,hp9⟩:=hP.f.h.cells;have hvl9:=hP.v.lt;have hfl9:=hP.f.h.f.lt;have hpl9:C.pb<wr.heap.size:=yi HC.prog.p.lt hP.f.h.ve.size;simp only[HGV.o]at hp9
   dsimp only at hf9 hvc9
   clear hgq hP hm;by_cases hltq:q<C.P.qg.length
   ·obtain⟨k2,hk2⟩:∃ k2,C.P.qg[q]?=some k2:=⟨_,yc hltq⟩;obtain⟨gb2,hga2,hgc2⟩:=HGF.o q k2 hk2;injection hga2 with hga2;injection hga2 with hga2;subst hga2;have hgk2:wr.cell? (.a gb q)=some (.i k2):=hgc2 wr HP9.o.f.h.ve;obtain⟨i2,hi2,_,hkl2,_,hfn2⟩:=zld HC.wf hk2;obtain⟨aa2,ac2,hic2,_,_⟩:=HC.ql HP9.o.f.h.ve hi2;have hcl2:=HC.wf.cl;have i2c:wr.cell? (.n C.cg k2 2)=some (.i i2.fn):=hic2 2 yo;have HI2:=zH hi2;have HK2:=zH hk2;clear hi2 hk2 hgc2 hic2;go_wp2_with fail;refine(hasE _ V'.jf k2 (onB C.P) HP9.o.f.h.on yo).mono ?_;rintro e w2 ⟨rfl,rfl⟩;cases hon2:onB C.P k2
    ·have REL:=zH (show RtIn C w vx w0.heap.size { V' with rv:=.s g7 (Rs.length+1) cap7 } (Rs++[mb4]) Bs mb4 j (C.P.qg.length-(q+1)) (zA (xu C.P (j+1) q)) (.i ((q+1:Nat):Int)) wr from
      ⟨⟨q+1,rfl,rfl,hltq,by rw[zk1 (by rw[zio HK2.o HI2.o,hon2];rfl)]⟩,HP9.o,HM9.o⟩)
     clear hon2;go_wp2;go_roundg (C.P.qg.length-(q+1))
     case measure=>have:=HGQ.o;omega
     case rel=>rw[show((q:Int)+1)=((q+1:Nat):Int) by omega];exact REL.o
    ·go_wp2_with fail;refine(hasE _ mb4 i2.fn (rsB C.P (j+1)) HM9.o yo).mono ?_;rintro e w2 ⟨rfl,rfl⟩;cases hin2:rsB C.P (j+1) i2.fn
     ·have REL:=zH (show RtIn C w vx w0.heap.size { V' with rv:=.s g7 (Rs.length+1) cap7 } (Rs++[mb4]) Bs mb4 j (C.P.qg.length-(q+1)) (zA (xu C.P (j+1) q)) (.i ((q+1:Nat):Int)) wr from
       ⟨⟨q+1,rfl,rfl,hltq,by rw[zk1 (by rw[zio HK2.o HI2.o,hin2,ycc])]⟩,HP9.o,HM9.o⟩)
      clear hon2 hin2;go_wp2;go_roundg (C.P.qg.length-(q+1))
      case measure=>have:=HGQ.o;omega
      case rel=>rw[show((q:Int)+1)=((q+1:Nat):Int) by omega];exact REL.o
     ·have hq5:q<5:=yq HC.wf.gl;have hbt:xu C.P (j+1) q<2 ^ 48:=yi (zk0 _ _ _) (yO yo yo);have h2q:2 ^ q<2 ^ 48:=yap yo yo;have hor:=zfj (xu C.P (j+1) q) (2 ^ q) hbt h2q;rw[show((2 ^ q:Nat):Int)=(2:Int) ^ q by push_cast;rfl]at hor;have hbs:=zH (zpu (P:=C.P) (r:=j+1) (j:=q) (by rw[zio HK2.o HI2.o,hon2,hin2];rfl));clear hon2 hin2;go_wp2_with fail;refine(zf9 q wr.heap.size 1 _ yo ((Blk.newAt (t:=3) (cs:=#[.i q]) rfl).cell 0)).mono ?_;rintro e w2 ⟨rfl,rfl⟩;have REL:=zH (show RtIn C w vx w0.heap.size { V' with rv:=.s g7 (Rs.length+1) cap7 } (Rs++[mb4]) Bs mb4 j (C.P.qg.length-(q+1)) (zA (xu C.P (j+1) q|||2 ^ q)) (.i ((q+1:Nat):Int)) (wr.alloc (.k #[.i q] 3))from
       ⟨⟨q+1,rfl,rfl,hltq,by rw[hbs.o]⟩,HP9.o.below (yB.alloc yL _) yL,HM9.o.alloc _⟩)
      go_wp2;go_roundg (C.P.qg.length-(q+1))
      case measure=>have:=HGQ.o;omega
      case rel=>rw[show((q:Int)+1)=((q+1:Nat):Int) by omega];exact REL.o
   ·obtain rfl:q=C.P.qg.length:=yo;have HBl:=zH (show Bs.length=j by rw[HBS.o,yah,zbt,ybd,ycz];omega);go_wp2_with fail;refine rgl 10 (fun w'=>w'.cell? (.a w0.heap.size 0)=some (.p V'.fb)/\(∀ i,w'.cell? (.a V'.fb i)=#[.p C.pb,.m V'.jf,V'.sv,.s g7 (Rs.length+1) cap7,V'.bv,.m V'.vz,.m V'.vu][i]?)/\(∀ i,w'.cell? (.a C.pb i)=(.c C:Array Value)[i]?)) ?_;have HQ5:=zH (HP9.o.below (yn wr.heap.size wr).drew yL);have hHeld:=HQ5.o.rts;unfold RtS at hHeld
    iterate 6(refine tK 0 rfl hHeld ?_)
    refine rdy 6 rfl fun K hK=>?_;go_simp;have HQ6:=zH (HQ5.o.below ((yn wr.drew.heap.size wr.drew).alloc yL (.k #[zA (xu C.P (j+1) C.P.qg.length)] 381)) yL);refine hK.o _ _ HQ6.o.rts (fun hHeld=>?_);clear hK K;unfold RtS at hHeld;refine rdy 7 rfl fun K hK=>?_;refine zan tySets rfl _ _ rfl C.w0.heap.size _ Bs.length (sets Bs) wr.heap.size _ _ HQ6.o.f.b (Blk.newAt rfl) rfl rfl rfl yE (yq HBl.o) (by have:=HQ6.o.f.h.ve.size;exact this) ?_;intro g8 cap8 w9 hrow8 hg8 hat8;have HQ9:=zH (HQ6.o.qk hrow8 hg8 hat8);have HR9:=zH (HQ6.o.rtsB hg8);have hfb9:=(HQ6.o.f.grown HQ6.o.f.b hg8 yd).1.f;have hfbf:=hfb9.frozen;have hfbl:=hfb9.lt;clear hfb9 hrow8 hg8 hat8 HQ5 HQ6 HP9 HM9;refine hK.o _ _ HR9.o (fun hHeld=>?_);clear hK K;unfold RtS at hHeld
    iterate 2(refine tK 8 rfl hHeld ?_)
    refine lst rfl fun K hK=>?_;go_simp;refine hK _ _ ?_;clear hK K hHeld HR9 hfbf hfbl;have REL:=zH (show RtRel C w vx w0.heap.size V (C.P.qg.length-(j+1)) (.i ((j+1:Nat):Int)) (w9.setCell (.a V'.fb 4) (.s g8 (Bs.length+1) cap8))from
     ⟨j+1,_,_,_,rfl,rfl,hlt,HQ9.o,HFE.o,by rw[yx,HRL.o];rfl,by
      rw[yam,<- HBS.o,show(zbt C.P)[j]?=some (xu C.P (j+1) C.P.qg.length) by
       unfold zbt;rw[yV,List.getElem?_range hlt];rfl];rfl⟩)
    clear HQ9;go_wp2;go_roundg (C.P.qg.length-(j+1))
    case measure=>have:=HG.o;omega
    case rel=>rw[show((j:Int)+1)=((j+1:Nat):Int) by omega];exact REL.o):p:=h
section
section
variable {C:AX} {w w' W W':World} {V:FV} {on lo ma:Nat->Bool} {Ms:List Bool} {Rs:List Nat} {RS:Nat->Nat->Bool} {Bs:List Nat} {vf:Nat}
theorem rts_of (h:FlM C W V on lo ma Ms Rs RS Bs)(hv:Blk W vf 296 #[.p V.fb]){N:Nat}(hb:Below N W W')(hN:W.heap.size<=N):RtS C V vf W':=by
 obtain⟨h1,h2⟩:=(h.below hb hN).h.cells;exact⟨(hv.below hb (yi hv.lt hN)).cell 0,h1,h2⟩
end
structure RtP (C:AX)(w:World)(vx vf:Nat)(V:FV)(on lo ma:Nat->Bool)(Ms:List Bool)(Rs:List Nat)(RS:Nat->Nat->Bool)(Bs:List Nat)(W:World):Prop where
 f:FlM C W V on lo ma Ms Rs RS Bs
 v:Blk W vf 296 #[.p V.fb]
 o:Blk W vx 296 #[.p V.fb]
 fb:w.heap.size<=V.fb/\w.heap.size<=V.vz/\w.heap.size<=V.vu/\w.heap.size<=vf
 rw_:∀ k,V.rv.ownBlock=some k->w.heap.size<=k
 bw:∀ k,V.bv.ownBlock=some k->w.heap.size<=k
 c:Below w.heap.size w W
section
variable {C:AX} {w w' W W':World} {V:FV} {on lo ma:Nat->Bool} {Ms:List Bool} {Rs:List Nat} {RS:Nat->Nat->Bool} {Bs:List Nat} {vx vf:Nat}
theorem RtP.below (h:RtP C w vx vf V on lo ma Ms Rs RS Bs W){N:Nat}(hb:Below N W W')(hN:W.heap.size<=N):RtP C w vx vf V on lo ma Ms Rs RS Bs W' :=
 ⟨h.f.below hb hN,h.v.below hb (yi h.v.lt hN),h.o.below hb (yi h.o.lt hN),h.fb,h.rw_,h.bw,h.c.trans (hb.mono (ya h.c.size hN))⟩
theorem RtP.rts (h:RtP C w vx vf V on lo ma Ms Rs RS Bs W):RtS C V vf W:=rts_of h.f h.v (yn _ W) yL
theorem RtP.root {m g cap:Nat}{S:Nat->Bool}(h:RtP C w vx vf V on lo ma Ms Rs RS Bs W)(hm:MkE W m S)(hml:V.vz≠m)(hmm:V.vu≠m)(hS:RS Rs.length=S)
  (hrow:W'.ownsRow C.w0.heap.size 310 1 (.s g (Rs.length+1) cap) (Rs.length+1) (zgs Rs++[.m m])) (hg:W.grownBy W' V.rv.ownBlock) (A:V.rv.ownBlock=some g\/g=W.heap.size) :
  RtP C w vx vf { V with rv:=.s g (Rs.length+1) cap } on lo ma Ms (Rs++[m]) RS Bs (W'.setCell (.a V.fb 3) (.s g (Rs.length+1) cap)):=by
 refine⟨h.f.roots hm hml hmm hS hrow hg,?_,((h.o.append h.f.r hg yd).qi (p:=(.a V.fb 3)) (h.o.qs h.f.h.f yd) _),h.fb,fun k e=>?_,h.bw,(h.c.grown hg h.c.size h.rw_).setCell h.fb.1 _⟩
 ·have D:Blk W' vf 296 #[.p V.fb]:=h.v.append h.f.r hg yd;exact D.qi (p:=(.a V.fb 3)) (h.v.qs h.f.h.f yd) _
 ·injection e with e;subst e;rcases A with A | A
  ·exact h.rw_ _ A
  ·rw[A];exact h.c.size
theorem RtP.qk {x g cap:Nat}(h:RtP C w vx vf V on lo ma Ms Rs RS Bs W)
  (hrow:W'.ownsRow C.w0.heap.size 381 1 (.s g (Bs.length+1) cap) (Bs.length+1) (sets Bs++[zA x])) (hg:W.grownBy W' V.bv.ownBlock) (A:V.bv.ownBlock=some g\/g=W.heap.size) :
  RtP C w vx vf { V with bv:=.s g (Bs.length+1) cap } on lo ma Ms Rs RS (Bs++[x]) (W'.setCell (.a V.fb 4) (.s g (Bs.length+1) cap)):=by
 refine⟨h.f.belows hrow hg,?_,((h.o.append h.f.b hg yd).qi (p:=(.a V.fb 4)) (h.o.qs h.f.h.f yd) _),h.fb,h.rw_,fun k e=>?_,(h.c.grown hg h.c.size h.bw).setCell h.fb.1 _⟩
 ·have D:Blk W' vf 296 #[.p V.fb]:=h.v.append h.f.b hg yd;exact D.qi (p:=(.a V.fb 4)) (h.v.qs h.f.h.f yd) _
 ·injection e with e;subst e;rcases A with A | A
  ·exact h.bw _ A
  ·rw[A];exact h.c.size
theorem RtP.rtsR (h:RtP C w vx vf V on lo ma Ms Rs RS Bs W)(hg:W.grownBy W' V.rv.ownBlock):RtS C V vf W':=by
 obtain⟨a,_⟩:=h.f.grown h.f.r hg yd;obtain⟨h1,h2⟩:=a.cells;exact⟨(h.v.append h.f.r hg yd).cell 0,h1,h2⟩
theorem RtP.rtsB (h:RtP C w vx vf V on lo ma Ms Rs RS Bs W)(hg:W.grownBy W' V.bv.ownBlock):RtS C V vf W':=by
 obtain⟨a,_⟩:=h.f.grown h.f.b hg yd;obtain⟨h1,h2⟩:=a.cells;exact⟨(h.v.append h.f.b hg yd).cell 0,h1,h2⟩
end
theorem zio {k:Nat}{i:In}(hk:P.qg[j]?=some k)(hi:P.code[k]?=some i):zhh P r j=(onB P k&&rsB P r i.fn):=by
 unfold zhh;simp only[hk,hi]
theorem zji (P:Pr):(zbt P).length=P.qg.length:=by simp[zbt]
theorem zvh (s x:Nat)(h:(zbt P)[s]?=some x):x<2 ^ (zbt P).length:=by
 rw[zji];unfold zbt at h;rw[yV]at h;cases hs:(List.range P.qg.length)[s]? with
 | none=>rw[hs]at h;cases h
 | some k=>rw[hs]at h;injection h with h;rw[<- h];exact zk0 _ _ _
theorem zk1 (h:zhh P r j=false):xu P r (j+1)=xu P r j:=by
 show(if zhh P r j then _ else _)=_;rw[h];rfl
theorem zpu (h:zhh P r j=true):xu P r (j+1)=xu P r j|||2 ^ j:=by
 show(if zhh P r j then _ else _)=_;rw[h];rfl
def RtRel (C:AX)(w:World)(vx vf:Nat)(V:FV)(gk:Nat)(kv:Value)(W:World):Prop :=
 ∃ (j:Nat) (V':FV) (Rs Bs:List Nat),kv=.i j/\gk=C.P.qg.length-j/\j<=C.P.qg.length/\RtP C w vx vf V' (onB C.P) (loB C.P) (maB C.P) (zW C.P) Rs (rsB C.P) Bs W/\V'.fb=V.fb/\Rs.length=j+1/\Bs=(zbt C.P).take j
structure RtIn (C:AX)(w:World)(vx vf:Nat)(V':FV)(Rs Bs:List Nat)(mb j:Nat)(gk:Nat)(bv qv:Value)(W:World):Prop where
 ex:∃ q:Nat,qv=.i q/\gk=C.P.qg.length-q/\q<=C.P.qg.length/\bv=zA (xu C.P (j+1) q)
 p:RtP C w vx vf V' (onB C.P) (loB C.P) (maB C.P) (zW C.P) Rs (rsB C.P) Bs W
 m:MkE W mb (rsB C.P (j+1))
theorem zzx (C:AX)(w w0:World)(V:FV)(vx:Nat)(hvx:Blk w0 vx 296 #[.p V.fb])(h:FlM C w0 V (onB C.P) (loB C.P) (maB C.P) (zW C.P) [] (rsB C.P) [])(hfb:w.heap.size<=V.fb/\w.heap.size<=V.vz/\w.heap.size<=V.vu)(hn:V.rv=.z/\V.bv=.z)(hb:Below w.heap.size w w0) :
  Calls prog 223 #[.p V.fb] w0 fun e W=>e=.e/\∃ V' Rs Bs,V'.fb=V.fb/\zcs C W V' Rs Bs/\Below w.heap.size w W/\Blk W vx 296 #[.p V.fb]:=by
 have bh:∀ (fn:Fn) (first cap:Array Value) (w:World),(Instr.makeFunc fn first cap).run prog w=.ok (.func fn first cap) w:=fun _ _ _ _=>rfl;have bi:=@run_makeMap prog;have HC:=h.h.c;have af:=HC.wf.main;have bd:=HC.wf.fl;have HP:=zH (show RtP C w vx w0.heap.size V (onB C.P) (loB C.P) (maB C.P) (zW C.P) [] (rsB C.P) [] (w0.alloc (.k #[.p V.fb] 296))from
  ⟨h.alloc _,Blk.newAt rfl,hvx.alloc _,⟨hfb.1,hfb.2.1,hfb.2.2,hb.size⟩,(by rw[hn.1];intro k e;cases e),(by rw[hn.2];intro k e;cases e),hb.alloc hb.size _⟩)
 have HN:=zH hn;clear h hb hfb hn hvx;go_enter func223,ntmps223;go_wp2_with fail;refine rgl 20 (fun w'=>w'.cell? (.a w0.heap.size 0)=some (.p V.fb)/\(∀ i,w'.cell? (.a V.fb i)=#[.p C.pb,.m V.jf,V.sv,V.rv,V.bv,.m V.vz,.m V.vu][i]?)/\(∀ i,w'.cell? (.a C.pb i)=(.c C:Array Value)[i]?)) ?_;have hHeld:RtS C V w0.heap.size (w0.alloc (.k #[.p V.fb] 296)).drew:=rts_of HP.o.f HP.o.v yB.drew yL;unfold RtS at hHeld
 iterate 14(refine tK 0 rfl hHeld ?_)
 refine rdy 14 rfl fun K hK=>?_;go_simp;have G:=zH (HP.o.below (((yn _ (w0.alloc (.k #[.p V.fb] 296))).alloc yL (.k #[.i C.P.main] 3)).drew) yL);have J:Blk ((w0.alloc (.k #[.p V.fb] 296)).alloc (.k #[.i C.P.main] 3)).drew (w0.heap.size+1) 3 #[.i C.P.main]:=(Blk.newAt yy).drew;generalize b5:((w0.alloc (.k #[.p V.fb] 296)).alloc (.k #[.i C.P.main] 3)).drew=w2 at G J |-;clear b5 HP;have b8:=G.o.f.h.lo.lt;have b9:=G.o.f.h.ma.lt;refine hK.o _ _ G.o.rts (fun hHeld=>?_);clear hK K;unfold RtS at hHeld;refine rdy 15 rfl fun K hK=>?_;go_simp;refine(zq0 HC G.o.f.h (w0.heap.size+1) C.P.main af J).mono ?_;rintro e w3 A;obtain⟨mb,S,rfl,hmb,Q,N,I⟩:=A.mk;have a9:=zH (G.o.below I yL);have aj:=zH (show MkE w3 mb (rsB C.P 0)from Q.cast fun k=>by rw[N,zlz];rfl);have bj:=I.size;clear Q N I A G J;refine hK.o _ _ a9.o.rts (fun hHeld=>?_);clear hK K;unfold RtS at hHeld;refine rdy 16 rfl fun K hK=>?_;go_simp;have E:=zH (a9.o.below ((yn _ w3).alloc yL (.k #[.m mb] 310)) yL);have ak:=zH (aj.o.alloc (.k #[.m mb] 310));refine hK.o _ _ E.o.rts (fun hHeld=>?_);clear hK K;unfold RtS at hHeld;refine rdy 17 rfl fun K hK=>?_;refine zan zop rfl _ _ rfl C.w0.heap.size _ 0 (zgs []) w3.heap.size _ _ E.o.f.r (Blk.newAt rfl) rfl rfl rfl yE yo (by have:=E.o.f.h.ve.size;exact this) ?_;intro g cap w5 U a2 a6;have ah:=zH (E.o.root (m:=mb) (g:=g) (cap:=cap) ak.o yo yo rfl U a2 a6);have ai:=zH (E.o.rtsR a2);have O:=(E.o.f.grown E.o.f.r a2 yd).1.f;have hfbf:=O.frozen;have hfbl:=O.lt;clear O U a2 a6 a9 E aj ak;refine hK.o _ _ ai.o (fun hHeld=>?_);clear hK K;unfold RtS at hHeld
 iterate 2(refine tK 18 rfl hHeld ?_)
 refine lst rfl fun K hK=>?_;go_simp;refine hK _ _ ?_;clear hK K hHeld ai hfbf hfbl;generalize an:w5.setCell (.a V.fb 3) (.s g 1 cap)=w6;have L:=zH (an ▸ ah.o);clear an ah;obtain⟨ga,gc,ae,aq⟩:=znk L.o.f.h;have bf:=HC.wf.gl;have HGF:=zH aq;have a3:=L.o.v.cell;obtain⟨hf,hp⟩:=L.o.f.h.cells;simp only[ae]at hp;have HGV:=zH ae;have ST:=zH (show RtRel C w vx w0.heap.size V C.P.qg.length (.i 0) w6 from
  ⟨0,_,_,[],rfl,rfl,yD _,L.o,rfl,rfl,by simp⟩)
 clear ae aq L;go_wp2_with fail;clear hf hp a3;go_loopg [36] C.P.qg.length (fun gk v36 wr=>RtRel C w vx w0.heap.size V gk v36 wr)
 case atStart=>exact ST.o
 case round =>
  obtain⟨j,V',Rs,Bs,rfl,hg,hj,hP,a7,am,a0⟩:=hrel;have HG:=zH hg;have HQ:=zH hP;have HRL:=zH am;have HBS:=zH a0;have HFE:=zH a7;have a3:=hP.v.cell;obtain⟨hf,hp⟩:=hP.f.h.cells;simp only[HGV.o]at hp;have b1:=hP.v.lt;have a8:=hP.f.h.f.lt;have ay:C.pb<wr.heap.size:=yi HC.prog.p.lt hP.f.h.ve.size;clear hg hP am a0 a7;by_cases hlt:j<C.P.qg.length
  ·obtain⟨k,hk⟩:∃ k,C.P.qg[j]?=some k:=⟨_,yc hlt⟩;obtain⟨gb,b6,ap⟩:=HGF.o j k hk;subst b6;have au:wr.cell? (.a gb j)=some (.i k):=ap wr HQ.o.f.h.ve;obtain⟨i,hi,h7,bg,ab,be⟩:=zld HC.wf hk;have bb:=HC.wf.cl;have HI:=zH hi;have HK:=zH hk;clear hi h7 hk ap;go_wp2_with fail;have D:=zH (HQ.o.below ((yn _ wr).alloc yL (.map #[] 0)) yL);refine(hasE _ V'.jf k (onB C.P) D.o.f.h.on yo).mono ?_;rintro e w2 ⟨rfl,rfl⟩;cases hon:onB C.P k
   ·have HM:=zH (show MkE (wr.alloc (.map #[] 0)) wr.heap.size (rsB C.P (j+1))from MkE.cast ⟨_,zlm wr⟩ (fun q=>by
     rw[zlz];refine⟨fun h=>(by cases h),?_⟩;rintro⟨k',i',h1,h2,h3,_⟩;rw[HK.o]at h1;injection h1 with h1;subst h1;rw[hon]at h3;cases h3))
    obtain⟨mb4,R⟩:∃ mb4,mb4=wr.heap.size:=⟨_,rfl⟩;rw[<- R]at HM |-;have HMB:=zH (show wr.heap.size<=mb4 by rw[R];exact yr _);have HQ4:=zH D.o;clear hon a3 hf hp au D b1 a8 ay R;generalize hW4:wr.alloc (.map #[] 0)=w4 at HQ4 HM |-;exact mAa
   ·have b3:=zH hon;obtain⟨aa,ac,aw,_,_⟩:=HC.ql D.o.f.h.ve HI.o;have b7:(wr.alloc (.map #[] 0)).cell? (.n C.cg k 11)=some (.i i.call):=aw 11 yo;clear hon aw;have Y:=zH (show ∀ W',Below (wr.alloc (.map #[] 0)).heap.size (wr.alloc (.map #[] 0)) W'->W'.cell? (.n C.cg k 11)=some (.i i.call)from fun W' hb=>by
     obtain⟨_,_,h,_,_⟩:=HC.ql (D.o.f.h.ve.trans (hb.mono D.o.f.h.ve.size)) HI.o;exact h 11 yo)
    clear b7;go_wp2_with fail;refine rgl 15 (fun w'=>(w'.cell? (.a w0.heap.size 0)=some (.p V'.fb)/\(∀ i,w'.cell? (.a V'.fb i)=#[.p C.pb,.m V'.jf,V'.sv,V'.rv,V'.bv,.m V'.vz,.m V'.vu][i]?)/\(∀ i,w'.cell? (.a C.pb i)=(.c C:Array Value)[i]?))/\w'.cell? (.n C.cg k 11)=some (.i i.call)) ?_;have hHeld:=And.intro (D.o.below (yn (wr.alloc (.map #[] 0)).heap.size (wr.alloc (.map #[] 0))).drew yL).rts (Y.o _ (yn (wr.alloc (.map #[] 0)).heap.size (wr.alloc (.map #[] 0))).drew);unfold RtS at hHeld
    iterate 13(refine tK 0 rfl hHeld ?_)
    have b4:=zH (D.o.below (yn (wr.alloc (.map #[] 0)).heap.size (wr.alloc (.map #[] 0))).drew yL);refine rdy 13 rfl fun K hK=>?_;go_simp;have a1:=((yn (wr.alloc (.map #[] 0)).heap.size (wr.alloc (.map #[] 0))).drew).alloc yL (.k #[.i i.call] 3);have Z:=zH (D.o.below a1 yL);have a4:=Y.o _ a1;have J:Blk ((wr.alloc (.map #[] 0)).drew.alloc (.k #[.i i.call] 3)) (wr.heap.size+1) 3 #[.i i.call]:=Blk.newAt yy;have ag:=zH a1;refine hK.o _ _ ⟨Z.o.rts,a4⟩ (fun hHeld=>?_);clear hK K a1 a4;unfold RtS at hHeld;refine rdy 14 rfl fun K hK=>?_;go_simp;refine(zq0 HC Z.o.f.h (wr.heap.size+1) i.call ab J).mono ?_;rintro e w3 A;obtain⟨mb4,S,rfl,hmb,Q,N,I⟩:=A.mk;have HQ4:=zH (Z.o.below I yL);have HM:=zH (show MkE w3 mb4 (rsB C.P (j+1))from Q.cast fun q=>by
     rw[N,zlz];refine⟨fun h=>⟨k,i,HK.o,HI.o,b3.o,h⟩,?_⟩;rintro⟨k',i',h1,h2,_,h4⟩;rw[HK.o]at h1;injection h1 with h1;subst h1;rw[HI.o]at h2;injection h2 with h2;subst h2;exact h4)
    have HMB:=zH (show wr.heap.size<=mb4 from ya (by simp;omega) hmb);have a5:=Y.o _ (ag.o.trans (I.mono yy));refine hK.o _ _ ⟨HQ4.o.rts,a5⟩ (fun hHeld=>?_);clear hK K a5 Q N I A Z J ag hmb b4 Y D;refine lst rfl fun K hK=>?_;go_simp;refine hK _ _ ?_;clear hK K hHeld a3 hf hp au b1 a8 ay;generalize hW4:w3=w4 at HQ4 HM |-;exact mAa
  ·obtain rfl:j=C.P.qg.length:=yo;have a0:Bs=zbt C.P:=by rw[HBS.o,<- zji,yaz]
   subst a0;go_wp2_with fail;have H:=zH (HQ.o.below ((yn wr.heap.size wr).alloc yL (.k #[.func (.func 276) #[] #[.p w0.heap.size]] 37)) yL);refine(zxe H.o.f (by rw[zji];omega) zvh w0.heap.size wr.heap.size H.o.v (Blk.newAt rfl)).mono ?_;rintro e w9 ⟨rfl,bl,hf9,ax,az,ao,ad⟩;have b2:=zH (show ∃ V' Rs Bs,V'.fb=V.fb/\zcs C w9 V' Rs Bs/\Below w.heap.size w w9/\Blk w9 vx 296 #[.p V.fb]from
    ⟨V',Rs,bl,HFE.o,⟨hf9,HRL.o,by rw[ax,zji],fun s x h=>by have:=az s x h;rwa [zji]at this,ao⟩,H.o.c.grown ad H.o.c.size H.o.bw,by rw[<- HFE.o];exact H.o.o.append H.o.f.b ad yd⟩)
   clear hf9 ax az ao ad;go_wp2_with fail
   first | go_end0 | refine ym (yp rfl _ _ _) rfl ?_
   exact⟨rfl,b2.o⟩
end
end Go.Proofs.YtkmcihhndgdhpaaGreat
