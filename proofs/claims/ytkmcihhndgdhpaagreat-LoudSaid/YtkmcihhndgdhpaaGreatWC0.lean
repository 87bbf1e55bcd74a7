/- FlowK: parts of the walk. -/
import Derived.Test.YtkmcihhndgdhpaaGreatWA7
set_option maxRecDepth 100000
set_option maxHeartbeats 4000000
set_option linter.unusedSimpArgs false
set_option linter.unusedVariables false
namespace Go.Proofs.YtkmcihhndgdhpaaGreat
section
open Go.RowKit Go.Maps Go.Shelf
set_option linter.unusedSimpArgs false
section
variable {C:AX} {w w' W W':World} {V:FV} {on lo ma:Nat→Bool} {Ms:List Bool} {Rs:List Nat} {RS:Nat→Nat→Bool} {Bs:List Nat} {vf:Nat}
theorem rts_of (h:FlM C W V on lo ma Ms Rs RS Bs)(hv:Blk W vf 296 #[.pointer (some ⟨V.fb,0,none⟩)]){N:Nat}(hb:Below N W W')(hN:W.heap.size≤N):RtS C V vf W':=by
 obtain⟨h1,h2⟩:=(h.below hb hN).h.cells
 exact⟨(hv.below hb (Nat.lt_of_lt_of_le hv.lt hN)).cell 0,h1,h2⟩
end
structure RtP (C:AX)(w:World)(vx vf:Nat)(V:FV)(on lo ma:Nat→Bool)(Ms:List Bool)(Rs:List Nat)(RS:Nat→Nat→Bool)(Bs:List Nat)(W:World):Prop where
 f:FlM C W V on lo ma Ms Rs RS Bs
 v:Blk W vf 296 #[.pointer (some ⟨V.fb,0,none⟩)]
 o:Blk W vx 296 #[.pointer (some ⟨V.fb,0,none⟩)]
 fb:w.heap.size≤V.fb∧w.heap.size≤V.lob∧w.heap.size≤V.mab∧w.heap.size≤vf
 rw_:∀ k,V.rv.ownBlock=some k→w.heap.size≤k
 bw:∀ k,V.bv.ownBlock=some k→w.heap.size≤k
 c:Below w.heap.size w W
section
variable {C:AX} {w w' W W':World} {V:FV} {on lo ma:Nat→Bool} {Ms:List Bool} {Rs:List Nat} {RS:Nat→Nat→Bool} {Bs:List Nat} {vx vf:Nat}
theorem RtP.below (h:RtP C w vx vf V on lo ma Ms Rs RS Bs W){N:Nat}(hb:Below N W W')(hN:W.heap.size≤N):RtP C w vx vf V on lo ma Ms Rs RS Bs W' :=
 ⟨h.f.below hb hN,h.v.below hb (Nat.lt_of_lt_of_le h.v.lt hN),h.o.below hb (Nat.lt_of_lt_of_le h.o.lt hN),h.fb,h.rw_,h.bw,h.c.trans (hb.mono (Nat.le_trans h.c.size hN))⟩
theorem RtP.rts (h:RtP C w vx vf V on lo ma Ms Rs RS Bs W):RtS C V vf W:=rts_of h.f h.v (Below.refl _ W) (Nat.le_refl _)
theorem RtP.root {m g cap:Nat}{S:Nat→Bool}(h:RtP C w vx vf V on lo ma Ms Rs RS Bs W)(hm:MkE W m S)(hml:V.lob≠m)(hmm:V.mab≠m)(hS:RS Rs.length=S)
  (hrow:W'.ownsRow C.w0.heap.size 310 1 (.slice (some ⟨g,0,none⟩) (Rs.length+1) cap) (Rs.length+1) (zhw Rs++[.map (some m)])) (hg:W.grownBy W' V.rv.ownBlock) (hat:V.rv.ownBlock=some g∨g=W.heap.size) :
  RtP C w vx vf { V with rv:=.slice (some ⟨g,0,none⟩) (Rs.length+1) cap } on lo ma Ms (Rs++[m]) RS Bs (W'.setCell ⟨V.fb,3,none⟩ (.slice (some ⟨g,0,none⟩) (Rs.length+1) cap)):=by
 refine⟨h.f.roots hm hml hmm hS hrow hg,?_,((h.o.append h.f.r hg (by decide)).far (p:=⟨V.fb,3,none⟩) (h.o.ne_ h.f.h.f (by decide)) _),h.fb,fun k e=>?_,h.bw,(h.c.grown hg h.c.size h.rw_).setCell h.fb.1 _⟩
 ·have hv':Blk W' vf 296 #[.pointer (some ⟨V.fb,0,none⟩)]:=h.v.append h.f.r hg (by decide)
  exact hv'.far (p:=⟨V.fb,3,none⟩) (h.v.ne_ h.f.h.f (by decide)) _
 ·injection e with e
  subst e
  rcases hat with hat | hat
  ·exact h.rw_ _ hat
  ·rw[hat];exact h.c.size
theorem RtP.bel {x g cap:Nat}(h:RtP C w vx vf V on lo ma Ms Rs RS Bs W)
  (hrow:W'.ownsRow C.w0.heap.size 381 1 (.slice (some ⟨g,0,none⟩) (Bs.length+1) cap) (Bs.length+1) (sets Bs++[zaa x])) (hg:W.grownBy W' V.bv.ownBlock) (hat:V.bv.ownBlock=some g∨g=W.heap.size) :
  RtP C w vx vf { V with bv:=.slice (some ⟨g,0,none⟩) (Bs.length+1) cap } on lo ma Ms Rs RS (Bs++[x]) (W'.setCell ⟨V.fb,4,none⟩ (.slice (some ⟨g,0,none⟩) (Bs.length+1) cap)):=by
 refine⟨h.f.belows hrow hg,?_,((h.o.append h.f.b hg (by decide)).far (p:=⟨V.fb,4,none⟩) (h.o.ne_ h.f.h.f (by decide)) _),h.fb,h.rw_,fun k e=>?_,(h.c.grown hg h.c.size h.bw).setCell h.fb.1 _⟩
 ·have hv':Blk W' vf 296 #[.pointer (some ⟨V.fb,0,none⟩)]:=h.v.append h.f.b hg (by decide)
  exact hv'.far (p:=⟨V.fb,4,none⟩) (h.v.ne_ h.f.h.f (by decide)) _
 ·injection e with e
  subst e
  rcases hat with hat | hat
  ·exact h.bw _ hat
  ·rw[hat];exact h.c.size
theorem RtP.rtsR (h:RtP C w vx vf V on lo ma Ms Rs RS Bs W)(hg:W.grownBy W' V.rv.ownBlock):RtS C V vf W':=by
 obtain⟨a,_⟩:=h.f.grown h.f.r hg (by decide)
 obtain⟨h1,h2⟩:=a.cells
 exact⟨(h.v.append h.f.r hg (by decide)).cell 0,h1,h2⟩
theorem RtP.rtsB (h:RtP C w vx vf V on lo ma Ms Rs RS Bs W)(hg:W.grownBy W' V.bv.ownBlock):RtS C V vf W':=by
 obtain⟨a,_⟩:=h.f.grown h.f.b hg (by decide)
 obtain⟨h1,h2⟩:=a.cells
 exact⟨(h.v.append h.f.b hg (by decide)).cell 0,h1,h2⟩
end
theorem zja {P:Pr}{r j k:Nat}{i:In}(hk:P.gos[j]? = some k)(hi:P.code[k]? = some i):zif P r j=(onB P k&&rsB P r i.fn):=by
 unfold zif
 simp only[hk,hi]
theorem zkw (P:Pr):(zdb P).length=P.gos.length:=by simp[zdb]
theorem zww {P:Pr}(s x:Nat)(h:(zdb P)[s]? = some x):x<2 ^ (zdb P).length:=by
 rw[zkw]
 unfold zdb at h
 rw[List.getElem?_map]at h
 cases hs:(List.range P.gos.length)[s]? with
 | none=>rw[hs]at h;cases h
 | some k=>rw[hs]at h;injection h with h;rw[← h];exact zlt _ _ _
theorem zlf {P:Pr}{r j:Nat}(h:zif P r j=false):zby P r (j+1)=zby P r j:=by
 show(if zif P r j then _ else _)=_
 rw[h];rfl
theorem zpz {P:Pr}{r j:Nat}(h:zif P r j=true):zby P r (j+1)=zby P r j|||2 ^ j:=by
 show(if zif P r j then _ else _)=_
 rw[h];rfl
def RtRel (C:AX)(w:World)(vx vf:Nat)(V:FV)(gk:Nat)(kv:Value)(W:World):Prop :=
 ∃ (j:Nat) (V':FV) (Rs Bs:List Nat),kv=.int .i64 j∧gk=C.P.gos.length-j∧j≤C.P.gos.length∧RtP C w vx vf V' (onB C.P) (loB C.P) (maB C.P) (zau C.P) Rs (rsB C.P) Bs W∧V'.fb=V.fb∧Rs.length=j+1∧Bs=(zdb C.P).take j
structure RtIn (C:AX)(w:World)(vx vf:Nat)(V':FV)(Rs Bs:List Nat)(mb j:Nat)(gk:Nat)(bv qv:Value)(W:World):Prop where
 ex:∃ q:Nat,qv=.int .i64 q∧gk=C.P.gos.length-q∧q≤C.P.gos.length∧bv=zaa (zby C.P (j+1) q)
 p:RtP C w vx vf V' (onB C.P) (loB C.P) (maB C.P) (zau C.P) Rs (rsB C.P) Bs W
 m:MkE W mb (rsB C.P (j+1))
theorem zv9 (C:AX)(w w0:World)(V:FV)(vx:Nat)(hvx:Blk w0 vx 296 #[.pointer (some ⟨V.fb,0,none⟩)])(h:FlM C w0 V (onB C.P) (loB C.P) (maB C.P) (zau C.P) [] (rsB C.P) [])(hfb:w.heap.size≤V.fb∧w.heap.size≤V.lob∧w.heap.size≤V.mab)(hn:V.rv=.slice none 0 0∧V.bv=.slice none 0 0)(hb:Below w.heap.size w w0) :
  Calls Tryz.prog 223 #[.pointer (some ⟨V.fb,0,none⟩)] w0 fun e W=>e=.returned (.tuple #[])∧∃ V' Rs Bs,V'.fb=V.fb∧zec C W V' Rs Bs∧Below w.heap.size w W∧Blk W vx 296 #[.pointer (some ⟨V.fb,0,none⟩)]:=by
 have hmf:∀ (fn:Fn) (first cap:Array Value) (w:World),(Instr.makeFunc fn first cap).run Tryz.prog w=.ok (.func fn first cap) w:=fun _ _ _ _=>rfl
 have hmm:=@run_makeMap Tryz.prog
 have HC:=h.h.c
 have hmain:=HC.wf.main
 have hfl:=HC.wf.fl
 have HP:=zH (show RtP C w vx w0.heap.size V (onB C.P) (loB C.P) (maB C.P) (zau C.P) [] (rsB C.P) [] (w0.alloc (.cells #[.pointer (some ⟨V.fb,0,none⟩)] 296))from
  ⟨h.alloc _,Blk.newAt rfl,hvx.alloc _,⟨hfb.1,hfb.2.1,hfb.2.2,hb.size⟩,(by rw[hn.1];intro k e;cases e),(by rw[hn.2];intro k e;cases e),hb.alloc hb.size _⟩)
 have HN:=zH hn
 clear h hb hfb hn hvx
 go_enter Tryz.func223,Tryz.ntmps223
 go_wp2_with fail
 refine zah 20 (fun w'=>w'.cell? ⟨w0.heap.size,0,none⟩=some (.pointer (some ⟨V.fb,0,none⟩))∧(∀ i,w'.cell? ⟨V.fb,i,none⟩=#[.pointer (some ⟨C.pb,0,none⟩),.map (some V.onb),V.sv,V.rv,V.bv,.map (some V.lob),.map (some V.mab)][i]?)∧(∀ i,w'.cell? ⟨C.pb,i,none⟩=#[.pointer (some ⟨C.X.tb,0,none⟩),.int .i64 C.P.nv,.int .i64 C.P.nm,.slice (some ⟨C.fg,0,none⟩) C.P.fs.length C.fcap,.slice (some ⟨C.cg,0,none⟩) C.P.code.length C.ccap,C.X.av,C.X.nv,C.X.gv,.int .i64 C.P.main][i]?)) (by kernel_rfl) rfl rfl (by kernel_rfl) ?_
 simp only[List.take_succ_cons,List.take_zero]
 have hHeld:RtS C V w0.heap.size (w0.alloc (.cells #[.pointer (some ⟨V.fb,0,none⟩)] 296)).drew:=rts_of HP.out.f HP.out.v (Below.refl _ _).drew (Nat.le_refl _)
 unfold RtS at hHeld
 iterate 14(refine tk 0 rfl (by kernel_rfl) (fun _ _ _ h=>h) hHeld (fun w hSw=>by go_simp;try with_reducible rfl) (by simp only[pA,pB,pC,pD,pE,pF,pG,pH];exact rfl) ?_)
 refine rdy 14 (by kernel_rfl) rfl fun K hK=>?_
 go_simp
 have HP2:=zH (HP.out.below (((Below.refl _ (w0.alloc (.cells #[.pointer (some ⟨V.fb,0,none⟩)] 296))).alloc (Nat.le_refl _) (.cells #[.int .i64 (C.P.main:Int)] 3)).drew) (Nat.le_refl _))
 have hrb:Blk ((w0.alloc (.cells #[.pointer (some ⟨V.fb,0,none⟩)] 296)).alloc (.cells #[.int .i64 (C.P.main:Int)] 3)).drew (w0.heap.size+1) 3 #[.int .i64 (C.P.main:Int)]:=(Blk.newAt (by simp)).drew
 generalize hW2:((w0.alloc (.cells #[.pointer (some ⟨V.fb,0,none⟩)] 296)).alloc (.cells #[.int .i64 (C.P.main:Int)] 3)).drew=w2 at HP2 hrb ⊢
 clear hW2 HP
 have hlo2:=HP2.out.f.h.lo.lt
 have hma2:=HP2.out.f.h.ma.lt
 refine hK.out _ _ HP2.out.rts (fun hHeld=>?_)
 clear hK K
 unfold RtS at hHeld
 refine rdy 15 (by kernel_rfl) rfl fun K hK=>?_
 go_simp
 refine(zr5 HC HP2.out.f.h (w0.heap.size+1) C.P.main hmain hrb).mono ?_
 rintro e w3 hpost
 obtain⟨mb,S,rfl,hmb,hmS,hSi,hb3⟩:=hpost.mk
 have HP3:=zH (HP2.out.below hb3 (Nat.le_refl _))
 have HS3:=zH (show MkE w3 mb (rsB C.P 0)from hmS.cast fun k=>by rw[hSi,zk5];rfl)
 have hz3:=hb3.size
 clear hmS hSi hb3 hpost HP2 hrb
 refine hK.out _ _ HP3.out.rts (fun hHeld=>?_)
 clear hK K
 unfold RtS at hHeld
 refine rdy 16 (by kernel_rfl) rfl fun K hK=>?_
 go_simp
 have HP4:=zH (HP3.out.below ((Below.refl _ w3).alloc (Nat.le_refl _) (.cells #[.map (some mb)] 310)) (Nat.le_refl _))
 have HS4:=zH (HS3.out.alloc (.cells #[.map (some mb)] 310))
 refine hK.out _ _ HP4.out.rts (fun hHeld=>?_)
 clear hK K
 unfold RtS at hHeld
 refine rdy 17 (by kernel_rfl) rfl fun K hK=>?_
 refine zc5 zn6 rfl _ _ rfl C.w0.heap.size _ 0 (zhw []) w3.heap.size _ _ HP4.out.f.r (Blk.newAt rfl) rfl rfl rfl (by simp[Value.oneCell']) (by omega) (by have:=HP4.out.f.h.onw.size;exact this) ?_
 intro g cap w5 hrow5 hg5 hat5
 have HP5:=zH (HP4.out.root (m:=mb) (g:=g) (cap:=cap) HS4.out (by omega) (by omega) rfl hrow5 hg5 hat5)
 have HR5:=zH (HP4.out.rtsR hg5)
 have hfb5:=(HP4.out.f.grown HP4.out.f.r hg5 (by decide)).1.f
 have hfbf:=hfb5.frozen
 have hfbl:=hfb5.lt
 clear hfb5 hrow5 hg5 hat5 HP3 HP4 HS3 HS4
 refine hK.out _ _ HR5.out (fun hHeld=>?_)
 clear hK K
 unfold RtS at hHeld
 iterate 2(refine tk 18 rfl (by kernel_rfl) (fun _ _ _ h=>h) hHeld (fun w hSw=>by go_simp;try with_reducible rfl) (by simp only[pA,pB,pC,pD,pE,pF,pG,pH];exact rfl) ?_)
 refine lst (by kernel_rfl) rfl fun K hK=>?_
 go_simp
 refine hK _ _ ?_
 clear hK K hHeld HR5 hfbf hfbl
 generalize hW6:w5.setCell ⟨V.fb,3,none⟩ (.slice (some ⟨g,0,none⟩) 1 cap)=w6
 have HP6:=zH (hW6 ▸ HP5.out)
 clear hW6 HP5
 obtain⟨ga,gc,hgv,hgf⟩:=zmq HP6.out.f.h
 have hgl:=HC.wf.gl
 have HGF:=zH hgf
 have hvc:=HP6.out.v.cell
 obtain⟨hf,hp⟩:=HP6.out.f.h.cells
 simp only[hgv]at hp
 have HGV:=zH hgv
 have ST:=zH (show RtRel C w vx w0.heap.size V C.P.gos.length (.int .i64 (0:Int)) w6 from
  ⟨0,_,_,[],rfl,rfl,Nat.zero_le _,HP6.out,rfl,rfl,by simp⟩)
 clear hgv hgf HP6
 go_wp2_with fail
 clear hf hp hvc
 go_loopg [36] C.P.gos.length (fun gk v36 wr=>RtRel C w vx w0.heap.size V gk v36 wr)
 case atStart=>exact ST.out
 case round =>
  obtain⟨j,V',Rs,Bs,rfl,hg,hj,hP,hfbe,hRl,hBs⟩:=hrel
  have HG:=zH hg
  have HQ:=zH hP
  have HRL:=zH hRl
  have HBS:=zH hBs
  have HFE:=zH hfbe
  have hvc:=hP.v.cell
  obtain⟨hf,hp⟩:=hP.f.h.cells
  simp only[HGV.out]at hp
  have hvl:=hP.v.lt
  have hfl':=hP.f.h.f.lt
  have hpl:C.pb<wr.heap.size:=Nat.lt_of_lt_of_le HC.prog.p.lt hP.f.h.onw.size
  clear hg hP hRl hBs hfbe
  by_cases hlt:j<C.P.gos.length
  ·obtain⟨k,hk⟩:∃ k,C.P.gos[j]? = some k:=⟨_,List.getElem?_eq_getElem hlt⟩
   obtain⟨gb,hga,hgc⟩:=HGF.out j k hk
   subst hga
   have hgk:wr.cell? ⟨gb,j,none⟩=some (.int .i64 (k:Int)):=hgc wr HQ.out.f.h.onw
   obtain⟨i,hi,h7,hkl,hcall,hfn⟩:=zlq HC.wf hk
   have hcl:=HC.wf.cl
   have HI:=zH hi
   have HK:=zH hk
   clear hi h7 hk hgc
   go_wp2_with fail
   have HQm:=zH (HQ.out.below ((Below.refl _ wr).alloc (Nat.le_refl _) (.map #[] 0)) (Nat.le_refl _))
   refine(hasE _ V'.onb k (onB C.P) HQm.out.f.h.on (by omega)).mono ?_
   rintro e w2 ⟨rfl,rfl⟩
   cases hon:onB C.P k
   ·have HM:=zH (show MkE (wr.alloc (.map #[] 0)) wr.heap.size (rsB C.P (j+1))from MkE.cast ⟨_,zll wr⟩ (fun q=>by
     rw[zk5]
     refine⟨fun h=>(by cases h),?_⟩
     rintro⟨k',i',h1,h2,h3,_⟩
     rw[HK.out]at h1
     injection h1 with h1
     subst h1
     rw[hon]at h3
     cases h3))
    obtain⟨mb4,hmb4⟩:∃ mb4,mb4=wr.heap.size:=⟨_,rfl⟩
    rw[← hmb4]at HM ⊢
    have HMB:=zH (show wr.heap.size≤mb4 by rw[hmb4];exact Nat.le_refl _)
    have HQ4:=zH HQm.out
    clear hon hvc hf hp hgk HQm hvl hfl' hpl hmb4
    generalize hW4:wr.alloc (.map #[] 0)=w4 at HQ4 HM ⊢
    clear hW4
    have hlo4:=HQ.out.f.h.lo.lt
    have hma4:=HQ.out.f.h.ma.lt
    go_wp2_with fail
    refine zah 10 (fun w'=>w'.cell? ⟨w0.heap.size,0,none⟩=some (.pointer (some ⟨V'.fb,0,none⟩))∧(∀ i,w'.cell? ⟨V'.fb,i,none⟩=#[.pointer (some ⟨C.pb,0,none⟩),.map (some V'.onb),V'.sv,V'.rv,V'.bv,.map (some V'.lob),.map (some V'.mab)][i]?)∧(∀ i,w'.cell? ⟨C.pb,i,none⟩=#[.pointer (some ⟨C.X.tb,0,none⟩),.int .i64 C.P.nv,.int .i64 C.P.nm,.slice (some ⟨C.fg,0,none⟩) C.P.fs.length C.fcap,.slice (some ⟨C.cg,0,none⟩) C.P.code.length C.ccap,C.X.av,C.X.nv,C.X.gv,.int .i64 C.P.main][i]?)) (by kernel_rfl) rfl rfl (by kernel_rfl) ?_
    simp only[List.take_succ_cons,List.take_zero]
    have HQ5:=zH (HQ4.out.below (Below.refl w4.heap.size w4).drew (Nat.le_refl _))
    have hHeld:=HQ5.out.rts
    unfold RtS at hHeld
    iterate 6(refine tk 0 rfl (by kernel_rfl) (fun _ _ _ h=>h) hHeld (fun w hSw=>by go_simp;try with_reducible rfl) (by simp only[pA,pB,pC,pD,pE,pF,pG,pH];exact rfl) ?_)
    refine rdy 6 (by kernel_rfl) rfl fun K hK=>?_
    go_simp
    have HQ6:=zH (HQ5.out.below ((Below.refl w4.drew.heap.size w4.drew).alloc (Nat.le_refl _) (.cells #[.map (some mb4)] 310)) (Nat.le_refl _))
    have HM6:=zH ((HM.out.drew).alloc (.cells #[.map (some mb4)] 310))
    refine hK.out _ _ HQ6.out.rts (fun hHeld=>?_)
    clear hK K
    unfold RtS at hHeld
    refine rdy 7 (by kernel_rfl) rfl fun K hK=>?_
    refine zc5 zn6 rfl _ _ rfl C.w0.heap.size _ Rs.length (zhw Rs) w4.heap.size _ _ HQ6.out.f.r (Blk.newAt rfl) rfl rfl rfl (by simp[Value.oneCell']) (by have:=HRL.out;omega) (by have:=HQ6.out.f.h.onw.size;exact this) ?_
    intro g7 cap7 w7 hrow7 hg7 hat7
    have HQ8:=zH (HQ6.out.root (m:=mb4) (g:=g7) (cap:=cap7) HM6.out (by have:=HMB.out;omega) (by have:=HMB.out;omega) (by rw[HRL.out]) hrow7 hg7 hat7)
    have HM8:=zH (show MkE w7 mb4 (rsB C.P (j+1))from HM6.out.of_block (hg7.block _ HM6.out.lt (fun e=>by obtain⟨cs,hb⟩:=zba HQ6.out.f.r e.symm;exact HM6.out.cellFar hb rfl)))
    have HR7:=zH (HQ6.out.rtsR hg7)
    have hfb7:=(HQ6.out.f.grown HQ6.out.f.r hg7 (by decide)).1.f
    have HM9:=zH (HM8.out.farB hfb7 3 (.slice (some ⟨g7,0,none⟩) (Rs.length+1) cap7))
    have hfbf:=hfb7.frozen
    have hfbl:=hfb7.lt
    clear hfb7 hrow7 hg7 hat7 HQ4 HQ5 HQ6 HM6 HM8
    refine hK.out _ _ HR7.out (fun hHeld=>?_)
    clear hK K
    unfold RtS at hHeld
    iterate 2(refine tk 8 rfl (by kernel_rfl) (fun _ _ _ h=>h) hHeld (fun w hSw=>by go_simp;try with_reducible rfl) (by simp only[pA,pB,pC,pD,pE,pF,pG,pH];exact rfl) ?_)
    refine lst (by kernel_rfl) rfl fun K hK=>?_
    go_simp
    refine hK _ _ ?_
    clear hK K hHeld HR7 hfbf hfbl
    generalize hW8:w7.setCell ⟨V'.fb,3,none⟩ (.slice (some ⟨g7,0,none⟩) (Rs.length+1) cap7)=w8 at HQ8 HM9 ⊢
    clear hW8 HM
    have hvc8:=HQ8.out.v.cell
    obtain⟨hf8,hp8⟩:=HQ8.out.f.h.cells
    simp only[HGV.out]at hp8
    dsimp only at hf8 hvc8
    have ST8:=zH (show RtIn C w vx w0.heap.size { V' with rv:=.slice (some ⟨g7,0,none⟩) (Rs.length+1) cap7 } (Rs++[mb4]) Bs mb4 j C.P.gos.length (zaa 0) (.int .i64 (0:Int)) w8 from⟨⟨0,rfl,rfl,Nat.zero_le _,rfl⟩,HQ8.out,HM9.out⟩)
    clear HQ8 HM9
    go_wp2_with fail
    clear hvc8 hf8 hp8
    go_loopg [5,80] C.P.gos.length (fun gk v5 v80 wr=>RtIn C w vx w0.heap.size { V' with rv:=.slice (some ⟨g7,0,none⟩) (Rs.length+1) cap7 } (Rs++[mb4]) Bs mb4 j gk v5 v80 wr)
    case atStart=>exact ST8.out
    case round =>
     rename_i wr1
     obtain⟨⟨q,rfl,hgq,hq,rfl⟩,hP,hm⟩:=hrel
     have HGQ:=zH hgq
     have HP9:=zH hP
     have HM9:=zH hm
     have hvc9:=hP.v.cell
     obtain⟨hf9,hp9⟩:=hP.f.h.cells
     have hvl9:=hP.v.lt
     have hfl9:=hP.f.h.f.lt
     have hpl9:C.pb<wr.heap.size:=Nat.lt_of_lt_of_le HC.prog.p.lt hP.f.h.onw.size
     simp only[HGV.out]at hp9
     dsimp only at hf9 hvc9
     clear hgq hP hm
     by_cases hltq:q<C.P.gos.length
     ·obtain⟨k2,hk2⟩:∃ k2,C.P.gos[q]? = some k2:=⟨_,List.getElem?_eq_getElem hltq⟩
      obtain⟨gb2,hga2,hgc2⟩:=HGF.out q k2 hk2
      injection hga2 with hga2
      injection hga2 with hga2
      subst hga2
      have hgk2:wr.cell? ⟨gb,q,none⟩=some (.int .i64 (k2:Int)):=hgc2 wr HP9.out.f.h.onw
      obtain⟨i2,hi2,_,hkl2,_,hfn2⟩:=zlq HC.wf hk2
      obtain⟨aa2,ac2,hic2,_,_⟩:=HC.icells HP9.out.f.h.onw hi2
      have hcl2:=HC.wf.cl
      have i2c:wr.cell? ⟨C.cg,k2*14+2,none⟩=some (.int .i64 i2.fn):=hic2 2 (by omega)
      have HI2:=zH hi2
      have HK2:=zH hk2
      clear hi2 hk2 hgc2 hic2
      go_wp2_with fail
      refine(hasE _ V'.onb k2 (onB C.P) HP9.out.f.h.on (by omega)).mono ?_
      rintro e w2 ⟨rfl,rfl⟩
      cases hon2:onB C.P k2
      ·have REL:=zH (show RtIn C w vx w0.heap.size { V' with rv:=.slice (some ⟨g7,0,none⟩) (Rs.length+1) cap7 } (Rs++[mb4]) Bs mb4 j (C.P.gos.length-(q+1)) (zaa (zby C.P (j+1) q)) (.int .i64 ((q+1:Nat):Int)) wr from
        ⟨⟨q+1,rfl,rfl,hltq,by rw[zlf (by rw[zja HK2.out HI2.out,hon2];rfl)]⟩,HP9.out,HM9.out⟩)
       clear hon2
       go_wp2_with fail
       go_roundg (C.P.gos.length-(q+1))
       case measure=>have:=HGQ.out;omega
       case rel=>rw[show((q:Int)+1)=((q+1:Nat):Int) by omega];exact REL.out
      ·go_wp2_with fail
       refine(hasE _ mb4 i2.fn (rsB C.P (j+1)) HM9.out (by omega)).mono ?_
       rintro e w2 ⟨rfl,rfl⟩
       cases hin2:rsB C.P (j+1) i2.fn
       ·have REL:=zH (show RtIn C w vx w0.heap.size { V' with rv:=.slice (some ⟨g7,0,none⟩) (Rs.length+1) cap7 } (Rs++[mb4]) Bs mb4 j (C.P.gos.length-(q+1)) (zaa (zby C.P (j+1) q)) (.int .i64 ((q+1:Nat):Int)) wr from
         ⟨⟨q+1,rfl,rfl,hltq,by rw[zlf (by rw[zja HK2.out HI2.out,hin2,Bool.and_false])]⟩,HP9.out,HM9.out⟩)
        clear hon2 hin2
        go_wp2_with fail
        go_roundg (C.P.gos.length-(q+1))
        case measure=>have:=HGQ.out;omega
        case rel=>rw[show((q:Int)+1)=((q+1:Nat):Int) by omega];exact REL.out
       ·have hq5:q<5:=by have:=HC.wf.gl;omega
        have hbt:zby C.P (j+1) q<2 ^ 48:=Nat.lt_of_lt_of_le (zlt _ _ _) (Nat.pow_le_pow_right (by omega) (by omega))
        have h2q:2 ^ q<2 ^ 48:=Nat.pow_lt_pow_right (by omega) (by omega)
        have hor:=zgn (zby C.P (j+1) q) (2 ^ q) hbt h2q
        rw[show((2 ^ q:Nat):Int)=(2:Int) ^ q by push_cast;rfl]at hor
        have hbs:=zH (zpz (P:=C.P) (r:=j+1) (j:=q) (by rw[zja HK2.out HI2.out,hon2,hin2];rfl))
        clear hon2 hin2
        go_wp2_with fail
        refine(zg0 q wr.heap.size 1 _ (by omega) ((Blk.newAt (t:=3) (cs:=#[.int .i64 (q:Int)]) rfl).cell 0)).mono ?_
        rintro e w2 ⟨rfl,rfl⟩
        have REL:=zH (show RtIn C w vx w0.heap.size { V' with rv:=.slice (some ⟨g7,0,none⟩) (Rs.length+1) cap7 } (Rs++[mb4]) Bs mb4 j (C.P.gos.length-(q+1)) (zaa (zby C.P (j+1) q|||2 ^ q)) (.int .i64 ((q+1:Nat):Int)) (wr.alloc (.cells #[.int .i64 (q:Int)] 3))from
         ⟨⟨q+1,rfl,rfl,hltq,by rw[hbs.out]⟩,HP9.out.below ((Below.refl _ _).alloc (Nat.le_refl _) _) (Nat.le_refl _),HM9.out.alloc _⟩)
        go_wp2_with fail
        go_roundg (C.P.gos.length-(q+1))
        case measure=>have:=HGQ.out;omega
        case rel=>rw[show((q:Int)+1)=((q+1:Nat):Int) by omega];exact REL.out
     ·obtain rfl:q=C.P.gos.length:=by omega
      have HBl:=zH (show Bs.length=j by rw[HBS.out,List.length_take,zdb,List.length_map,List.length_range];omega)
      go_wp2_with fail
      refine zah 10 (fun w'=>w'.cell? ⟨w0.heap.size,0,none⟩=some (.pointer (some ⟨V'.fb,0,none⟩))∧(∀ i,w'.cell? ⟨V'.fb,i,none⟩=#[.pointer (some ⟨C.pb,0,none⟩),.map (some V'.onb),V'.sv,.slice (some ⟨g7,0,none⟩) (Rs.length+1) cap7,V'.bv,.map (some V'.lob),.map (some V'.mab)][i]?)∧(∀ i,w'.cell? ⟨C.pb,i,none⟩=#[.pointer (some ⟨C.X.tb,0,none⟩),.int .i64 C.P.nv,.int .i64 C.P.nm,.slice (some ⟨C.fg,0,none⟩) C.P.fs.length C.fcap,.slice (some ⟨C.cg,0,none⟩) C.P.code.length C.ccap,C.X.av,C.X.nv,C.X.gv,.int .i64 C.P.main][i]?)) (by kernel_rfl) rfl rfl (by kernel_rfl) ?_
      simp only[List.take_succ_cons,List.take_zero]
      have HQ5:=zH (HP9.out.below (Below.refl wr.heap.size wr).drew (Nat.le_refl _))
      have hHeld:=HQ5.out.rts
      unfold RtS at hHeld
      iterate 6(refine tk 0 rfl (by kernel_rfl) (fun _ _ _ h=>h) hHeld (fun w hSw=>by go_simp;try with_reducible rfl) (by simp only[pA,pB,pC,pD,pE,pF,pG,pH];exact rfl) ?_)
      refine rdy 6 (by kernel_rfl) rfl fun K hK=>?_
      go_simp
      have HQ6:=zH (HQ5.out.below ((Below.refl wr.drew.heap.size wr.drew).alloc (Nat.le_refl _) (.cells #[zaa (zby C.P (j+1) C.P.gos.length)] 381)) (Nat.le_refl _))
      refine hK.out _ _ HQ6.out.rts (fun hHeld=>?_)
      clear hK K
      unfold RtS at hHeld
      refine rdy 7 (by kernel_rfl) rfl fun K hK=>?_
      refine zc5 tySets rfl _ _ rfl C.w0.heap.size _ Bs.length (sets Bs) wr.heap.size _ _ HQ6.out.f.b (Blk.newAt rfl) rfl rfl rfl (by simp[Value.oneCell']) (by have:=HBl.out;omega) (by have:=HQ6.out.f.h.onw.size;exact this) ?_
      intro g8 cap8 w9 hrow8 hg8 hat8
      have HQ9:=zH (HQ6.out.bel hrow8 hg8 hat8)
      have HR9:=zH (HQ6.out.rtsB hg8)
      have hfb9:=(HQ6.out.f.grown HQ6.out.f.b hg8 (by decide)).1.f
      have hfbf:=hfb9.frozen
      have hfbl:=hfb9.lt
      clear hfb9 hrow8 hg8 hat8 HQ5 HQ6 HP9 HM9
      refine hK.out _ _ HR9.out (fun hHeld=>?_)
      clear hK K
      unfold RtS at hHeld
      iterate 2(refine tk 8 rfl (by kernel_rfl) (fun _ _ _ h=>h) hHeld (fun w hSw=>by go_simp;try with_reducible rfl) (by simp only[pA,pB,pC,pD,pE,pF,pG,pH];exact rfl) ?_)
      refine lst (by kernel_rfl) rfl fun K hK=>?_
      go_simp
      refine hK _ _ ?_
      clear hK K hHeld HR9 hfbf hfbl
      have REL:=zH (show RtRel C w vx w0.heap.size V (C.P.gos.length-(j+1)) (.int .i64 ((j+1:Nat):Int)) (w9.setCell ⟨V'.fb,4,none⟩ (.slice (some ⟨g8,0,none⟩) (Bs.length+1) cap8))from
       ⟨j+1,_,_,_,rfl,rfl,hlt,HQ9.out,HFE.out,by rw[List.length_append,HRL.out];rfl,by
        rw[List.take_add_one,← HBS.out,show(zdb C.P)[j]? = some (zby C.P (j+1) C.P.gos.length) by
         unfold zdb
         rw[List.getElem?_map,List.getElem?_range hlt];rfl];rfl⟩)
      clear HQ9
      go_wp2_with fail
      go_roundg (C.P.gos.length-(j+1))
      case measure=>have:=HG.out;omega
      case rel=>rw[show((j:Int)+1)=((j+1:Nat):Int) by omega];exact REL.out
   ·have HON:=zH hon
    obtain⟨aa,ac,hic,_,_⟩:=HC.icells HQm.out.f.h.onw HI.out
    have i11:(wr.alloc (.map #[] 0)).cell? ⟨C.cg,k*14+11,none⟩=some (.int .i64 i.call):=hic 11 (by omega)
    clear hon hic
    have HIC:=zH (show ∀ W',Below (wr.alloc (.map #[] 0)).heap.size (wr.alloc (.map #[] 0)) W'→W'.cell? ⟨C.cg,k*14+11,none⟩=some (.int .i64 i.call)from fun W' hb=>by
     obtain⟨_,_,h,_,_⟩:=HC.icells (HQm.out.f.h.onw.trans (hb.mono HQm.out.f.h.onw.size)) HI.out
     exact h 11 (by omega))
    clear i11
    go_wp2_with fail
    refine zah 15 (fun w'=>(w'.cell? ⟨w0.heap.size,0,none⟩=some (.pointer (some ⟨V'.fb,0,none⟩))∧(∀ i,w'.cell? ⟨V'.fb,i,none⟩=#[.pointer (some ⟨C.pb,0,none⟩),.map (some V'.onb),V'.sv,V'.rv,V'.bv,.map (some V'.lob),.map (some V'.mab)][i]?)∧(∀ i,w'.cell? ⟨C.pb,i,none⟩=#[.pointer (some ⟨C.X.tb,0,none⟩),.int .i64 C.P.nv,.int .i64 C.P.nm,.slice (some ⟨C.fg,0,none⟩) C.P.fs.length C.fcap,.slice (some ⟨C.cg,0,none⟩) C.P.code.length C.ccap,C.X.av,C.X.nv,C.X.gv,.int .i64 C.P.main][i]?))∧w'.cell? ⟨C.cg,k*14+11,none⟩=some (.int .i64 i.call)) (by kernel_rfl) rfl rfl (by kernel_rfl) ?_
    simp only[List.take_succ_cons,List.take_zero]
    have hHeld:=And.intro (HQm.out.below (Below.refl (wr.alloc (.map #[] 0)).heap.size (wr.alloc (.map #[] 0))).drew (Nat.le_refl _)).rts (HIC.out _ (Below.refl (wr.alloc (.map #[] 0)).heap.size (wr.alloc (.map #[] 0))).drew)
    unfold RtS at hHeld
    iterate 13(refine tk 0 rfl (by kernel_rfl) (fun _ _ _ h=>h) hHeld (fun w hSw=>by go_simp;try with_reducible rfl) (by simp only[pA,pB,pC,pD,pE,pF,pG,pH];exact rfl) ?_)
    have HQd:=zH (HQm.out.below (Below.refl (wr.alloc (.map #[] 0)).heap.size (wr.alloc (.map #[] 0))).drew (Nat.le_refl _))
    refine rdy 13 (by kernel_rfl) rfl fun K hK=>?_
    go_simp
    have hba:=((Below.refl (wr.alloc (.map #[] 0)).heap.size (wr.alloc (.map #[] 0))).drew).alloc (Nat.le_refl _) (.cells #[.int .i64 (i.call:Int)] 3)
    have HQa:=zH (HQm.out.below hba (Nat.le_refl _))
    have hICa:=HIC.out _ hba
    have hrb:Blk ((wr.alloc (.map #[] 0)).drew.alloc (.cells #[.int .i64 (i.call:Int)] 3)) (wr.heap.size+1) 3 #[.int .i64 (i.call:Int)]:=Blk.newAt (by simp)
    have HBA:=zH hba
    refine hK.out _ _ ⟨HQa.out.rts,hICa⟩ (fun hHeld=>?_)
    clear hK K hba hICa
    unfold RtS at hHeld
    refine rdy 14 (by kernel_rfl) rfl fun K hK=>?_
    go_simp
    refine(zr5 HC HQa.out.f.h (wr.heap.size+1) i.call hcall hrb).mono ?_
    rintro e w3 hpost
    obtain⟨mb4,S,rfl,hmb,hmS,hSi,hb3⟩:=hpost.mk
    have HQ4:=zH (HQa.out.below hb3 (Nat.le_refl _))
    have HM:=zH (show MkE w3 mb4 (rsB C.P (j+1))from hmS.cast fun q=>by
     rw[hSi,zk5]
     refine⟨fun h=>⟨k,i,HK.out,HI.out,HON.out,h⟩,?_⟩
     rintro⟨k',i',h1,h2,_,h4⟩
     rw[HK.out]at h1
     injection h1 with h1
     subst h1
     rw[HI.out]at h2
     injection h2 with h2
     subst h2
     exact h4)
    have HMB:=zH (show wr.heap.size≤mb4 from Nat.le_trans (by simp;omega) hmb)
    have hICb:=HIC.out _ (HBA.out.trans (hb3.mono (by simp)))
    refine hK.out _ _ ⟨HQ4.out.rts,hICb⟩ (fun hHeld=>?_)
    clear hK K hICb hmS hSi hb3 hpost HQa hrb HBA hmb HQd HIC HQm
    refine lst (by kernel_rfl) rfl fun K hK=>?_
    go_simp
    refine hK _ _ ?_
    clear hK K hHeld hvc hf hp hgk hvl hfl' hpl
    generalize hW4:w3=w4 at HQ4 HM ⊢
    clear hW4
    have hlo4:=HQ.out.f.h.lo.lt
    have hma4:=HQ.out.f.h.ma.lt
    go_wp2_with fail
    refine zah 10 (fun w'=>w'.cell? ⟨w0.heap.size,0,none⟩=some (.pointer (some ⟨V'.fb,0,none⟩))∧(∀ i,w'.cell? ⟨V'.fb,i,none⟩=#[.pointer (some ⟨C.pb,0,none⟩),.map (some V'.onb),V'.sv,V'.rv,V'.bv,.map (some V'.lob),.map (some V'.mab)][i]?)∧(∀ i,w'.cell? ⟨C.pb,i,none⟩=#[.pointer (some ⟨C.X.tb,0,none⟩),.int .i64 C.P.nv,.int .i64 C.P.nm,.slice (some ⟨C.fg,0,none⟩) C.P.fs.length C.fcap,.slice (some ⟨C.cg,0,none⟩) C.P.code.length C.ccap,C.X.av,C.X.nv,C.X.gv,.int .i64 C.P.main][i]?)) (by kernel_rfl) rfl rfl (by kernel_rfl) ?_
    simp only[List.take_succ_cons,List.take_zero]
    have HQ5:=zH (HQ4.out.below (Below.refl w4.heap.size w4).drew (Nat.le_refl _))
    have hHeld:=HQ5.out.rts
    unfold RtS at hHeld
    iterate 6(refine tk 0 rfl (by kernel_rfl) (fun _ _ _ h=>h) hHeld (fun w hSw=>by go_simp;try with_reducible rfl) (by simp only[pA,pB,pC,pD,pE,pF,pG,pH];exact rfl) ?_)
    refine rdy 6 (by kernel_rfl) rfl fun K hK=>?_
    go_simp
    have HQ6:=zH (HQ5.out.below ((Below.refl w4.drew.heap.size w4.drew).alloc (Nat.le_refl _) (.cells #[.map (some mb4)] 310)) (Nat.le_refl _))
    have HM6:=zH ((HM.out.drew).alloc (.cells #[.map (some mb4)] 310))
    refine hK.out _ _ HQ6.out.rts (fun hHeld=>?_)
    clear hK K
    unfold RtS at hHeld
    refine rdy 7 (by kernel_rfl) rfl fun K hK=>?_
    refine zc5 zn6 rfl _ _ rfl C.w0.heap.size _ Rs.length (zhw Rs) w4.heap.size _ _ HQ6.out.f.r (Blk.newAt rfl) rfl rfl rfl (by simp[Value.oneCell']) (by have:=HRL.out;omega) (by have:=HQ6.out.f.h.onw.size;exact this) ?_
    intro g7 cap7 w7 hrow7 hg7 hat7
    have HQ8:=zH (HQ6.out.root (m:=mb4) (g:=g7) (cap:=cap7) HM6.out (by have:=HMB.out;omega) (by have:=HMB.out;omega) (by rw[HRL.out]) hrow7 hg7 hat7)
    have HM8:=zH (show MkE w7 mb4 (rsB C.P (j+1))from HM6.out.of_block (hg7.block _ HM6.out.lt (fun e=>by obtain⟨cs,hb⟩:=zba HQ6.out.f.r e.symm;exact HM6.out.cellFar hb rfl)))
    have HR7:=zH (HQ6.out.rtsR hg7)
    have hfb7:=(HQ6.out.f.grown HQ6.out.f.r hg7 (by decide)).1.f
    have HM9:=zH (HM8.out.farB hfb7 3 (.slice (some ⟨g7,0,none⟩) (Rs.length+1) cap7))
    have hfbf:=hfb7.frozen
    have hfbl:=hfb7.lt
    clear hfb7 hrow7 hg7 hat7 HQ4 HQ5 HQ6 HM6 HM8
    refine hK.out _ _ HR7.out (fun hHeld=>?_)
    clear hK K
    unfold RtS at hHeld
    iterate 2(refine tk 8 rfl (by kernel_rfl) (fun _ _ _ h=>h) hHeld (fun w hSw=>by go_simp;try with_reducible rfl) (by simp only[pA,pB,pC,pD,pE,pF,pG,pH];exact rfl) ?_)
    refine lst (by kernel_rfl) rfl fun K hK=>?_
    go_simp
    refine hK _ _ ?_
    clear hK K hHeld HR7 hfbf hfbl
    generalize hW8:w7.setCell ⟨V'.fb,3,none⟩ (.slice (some ⟨g7,0,none⟩) (Rs.length+1) cap7)=w8 at HQ8 HM9 ⊢
    clear hW8 HM
    have hvc8:=HQ8.out.v.cell
    obtain⟨hf8,hp8⟩:=HQ8.out.f.h.cells
    simp only[HGV.out]at hp8
    dsimp only at hf8 hvc8
    have ST8:=zH (show RtIn C w vx w0.heap.size { V' with rv:=.slice (some ⟨g7,0,none⟩) (Rs.length+1) cap7 } (Rs++[mb4]) Bs mb4 j C.P.gos.length (zaa 0) (.int .i64 (0:Int)) w8 from⟨⟨0,rfl,rfl,Nat.zero_le _,rfl⟩,HQ8.out,HM9.out⟩)
    clear HQ8 HM9
    go_wp2_with fail
    clear hvc8 hf8 hp8
    go_loopg [5,80] C.P.gos.length (fun gk v5 v80 wr=>RtIn C w vx w0.heap.size { V' with rv:=.slice (some ⟨g7,0,none⟩) (Rs.length+1) cap7 } (Rs++[mb4]) Bs mb4 j gk v5 v80 wr)
    case atStart=>exact ST8.out
    case round =>
     rename_i wr1
     obtain⟨⟨q,rfl,hgq,hq,rfl⟩,hP,hm⟩:=hrel
     have HGQ:=zH hgq
     have HP9:=zH hP
     have HM9:=zH hm
     have hvc9:=hP.v.cell
     obtain⟨hf9,hp9⟩:=hP.f.h.cells
     have hvl9:=hP.v.lt
     have hfl9:=hP.f.h.f.lt
     have hpl9:C.pb<wr.heap.size:=Nat.lt_of_lt_of_le HC.prog.p.lt hP.f.h.onw.size
     simp only[HGV.out]at hp9
     dsimp only at hf9 hvc9
     clear hgq hP hm
     by_cases hltq:q<C.P.gos.length
     ·obtain⟨k2,hk2⟩:∃ k2,C.P.gos[q]? = some k2:=⟨_,List.getElem?_eq_getElem hltq⟩
      obtain⟨gb2,hga2,hgc2⟩:=HGF.out q k2 hk2
      injection hga2 with hga2
      injection hga2 with hga2
      subst hga2
      have hgk2:wr.cell? ⟨gb,q,none⟩=some (.int .i64 (k2:Int)):=hgc2 wr HP9.out.f.h.onw
      obtain⟨i2,hi2,_,hkl2,_,hfn2⟩:=zlq HC.wf hk2
      obtain⟨aa2,ac2,hic2,_,_⟩:=HC.icells HP9.out.f.h.onw hi2
      have hcl2:=HC.wf.cl
      have i2c:wr.cell? ⟨C.cg,k2*14+2,none⟩=some (.int .i64 i2.fn):=hic2 2 (by omega)
      have HI2:=zH hi2
      have HK2:=zH hk2
      clear hi2 hk2 hgc2 hic2
      go_wp2_with fail
      refine(hasE _ V'.onb k2 (onB C.P) HP9.out.f.h.on (by omega)).mono ?_
      rintro e w2 ⟨rfl,rfl⟩
      cases hon2:onB C.P k2
      ·have REL:=zH (show RtIn C w vx w0.heap.size { V' with rv:=.slice (some ⟨g7,0,none⟩) (Rs.length+1) cap7 } (Rs++[mb4]) Bs mb4 j (C.P.gos.length-(q+1)) (zaa (zby C.P (j+1) q)) (.int .i64 ((q+1:Nat):Int)) wr from
        ⟨⟨q+1,rfl,rfl,hltq,by rw[zlf (by rw[zja HK2.out HI2.out,hon2];rfl)]⟩,HP9.out,HM9.out⟩)
       clear hon2
       go_wp2_with fail
       go_roundg (C.P.gos.length-(q+1))
       case measure=>have:=HGQ.out;omega
       case rel=>rw[show((q:Int)+1)=((q+1:Nat):Int) by omega];exact REL.out
      ·go_wp2_with fail
       refine(hasE _ mb4 i2.fn (rsB C.P (j+1)) HM9.out (by omega)).mono ?_
       rintro e w2 ⟨rfl,rfl⟩
       cases hin2:rsB C.P (j+1) i2.fn
       ·have REL:=zH (show RtIn C w vx w0.heap.size { V' with rv:=.slice (some ⟨g7,0,none⟩) (Rs.length+1) cap7 } (Rs++[mb4]) Bs mb4 j (C.P.gos.length-(q+1)) (zaa (zby C.P (j+1) q)) (.int .i64 ((q+1:Nat):Int)) wr from
         ⟨⟨q+1,rfl,rfl,hltq,by rw[zlf (by rw[zja HK2.out HI2.out,hin2,Bool.and_false])]⟩,HP9.out,HM9.out⟩)
        clear hon2 hin2
        go_wp2_with fail
        go_roundg (C.P.gos.length-(q+1))
        case measure=>have:=HGQ.out;omega
        case rel=>rw[show((q:Int)+1)=((q+1:Nat):Int) by omega];exact REL.out
       ·have hq5:q<5:=by have:=HC.wf.gl;omega
        have hbt:zby C.P (j+1) q<2 ^ 48:=Nat.lt_of_lt_of_le (zlt _ _ _) (Nat.pow_le_pow_right (by omega) (by omega))
        have h2q:2 ^ q<2 ^ 48:=Nat.pow_lt_pow_right (by omega) (by omega)
        have hor:=zgn (zby C.P (j+1) q) (2 ^ q) hbt h2q
        rw[show((2 ^ q:Nat):Int)=(2:Int) ^ q by push_cast;rfl]at hor
        have hbs:=zH (zpz (P:=C.P) (r:=j+1) (j:=q) (by rw[zja HK2.out HI2.out,hon2,hin2];rfl))
        clear hon2 hin2
        go_wp2_with fail
        refine(zg0 q wr.heap.size 1 _ (by omega) ((Blk.newAt (t:=3) (cs:=#[.int .i64 (q:Int)]) rfl).cell 0)).mono ?_
        rintro e w2 ⟨rfl,rfl⟩
        have REL:=zH (show RtIn C w vx w0.heap.size { V' with rv:=.slice (some ⟨g7,0,none⟩) (Rs.length+1) cap7 } (Rs++[mb4]) Bs mb4 j (C.P.gos.length-(q+1)) (zaa (zby C.P (j+1) q|||2 ^ q)) (.int .i64 ((q+1:Nat):Int)) (wr.alloc (.cells #[.int .i64 (q:Int)] 3))from
         ⟨⟨q+1,rfl,rfl,hltq,by rw[hbs.out]⟩,HP9.out.below ((Below.refl _ _).alloc (Nat.le_refl _) _) (Nat.le_refl _),HM9.out.alloc _⟩)
        go_wp2_with fail
        go_roundg (C.P.gos.length-(q+1))
        case measure=>have:=HGQ.out;omega
        case rel=>rw[show((q:Int)+1)=((q+1:Nat):Int) by omega];exact REL.out
     ·obtain rfl:q=C.P.gos.length:=by omega
      have HBl:=zH (show Bs.length=j by rw[HBS.out,List.length_take,zdb,List.length_map,List.length_range];omega)
      go_wp2_with fail
      refine zah 10 (fun w'=>w'.cell? ⟨w0.heap.size,0,none⟩=some (.pointer (some ⟨V'.fb,0,none⟩))∧(∀ i,w'.cell? ⟨V'.fb,i,none⟩=#[.pointer (some ⟨C.pb,0,none⟩),.map (some V'.onb),V'.sv,.slice (some ⟨g7,0,none⟩) (Rs.length+1) cap7,V'.bv,.map (some V'.lob),.map (some V'.mab)][i]?)∧(∀ i,w'.cell? ⟨C.pb,i,none⟩=#[.pointer (some ⟨C.X.tb,0,none⟩),.int .i64 C.P.nv,.int .i64 C.P.nm,.slice (some ⟨C.fg,0,none⟩) C.P.fs.length C.fcap,.slice (some ⟨C.cg,0,none⟩) C.P.code.length C.ccap,C.X.av,C.X.nv,C.X.gv,.int .i64 C.P.main][i]?)) (by kernel_rfl) rfl rfl (by kernel_rfl) ?_
      simp only[List.take_succ_cons,List.take_zero]
      have HQ5:=zH (HP9.out.below (Below.refl wr.heap.size wr).drew (Nat.le_refl _))
      have hHeld:=HQ5.out.rts
      unfold RtS at hHeld
      iterate 6(refine tk 0 rfl (by kernel_rfl) (fun _ _ _ h=>h) hHeld (fun w hSw=>by go_simp;try with_reducible rfl) (by simp only[pA,pB,pC,pD,pE,pF,pG,pH];exact rfl) ?_)
      refine rdy 6 (by kernel_rfl) rfl fun K hK=>?_
      go_simp
      have HQ6:=zH (HQ5.out.below ((Below.refl wr.drew.heap.size wr.drew).alloc (Nat.le_refl _) (.cells #[zaa (zby C.P (j+1) C.P.gos.length)] 381)) (Nat.le_refl _))
      refine hK.out _ _ HQ6.out.rts (fun hHeld=>?_)
      clear hK K
      unfold RtS at hHeld
      refine rdy 7 (by kernel_rfl) rfl fun K hK=>?_
      refine zc5 tySets rfl _ _ rfl C.w0.heap.size _ Bs.length (sets Bs) wr.heap.size _ _ HQ6.out.f.b (Blk.newAt rfl) rfl rfl rfl (by simp[Value.oneCell']) (by have:=HBl.out;omega) (by have:=HQ6.out.f.h.onw.size;exact this) ?_
      intro g8 cap8 w9 hrow8 hg8 hat8
      have HQ9:=zH (HQ6.out.bel hrow8 hg8 hat8)
      have HR9:=zH (HQ6.out.rtsB hg8)
      have hfb9:=(HQ6.out.f.grown HQ6.out.f.b hg8 (by decide)).1.f
      have hfbf:=hfb9.frozen
      have hfbl:=hfb9.lt
      clear hfb9 hrow8 hg8 hat8 HQ5 HQ6 HP9 HM9
      refine hK.out _ _ HR9.out (fun hHeld=>?_)
      clear hK K
      unfold RtS at hHeld
      iterate 2(refine tk 8 rfl (by kernel_rfl) (fun _ _ _ h=>h) hHeld (fun w hSw=>by go_simp;try with_reducible rfl) (by simp only[pA,pB,pC,pD,pE,pF,pG,pH];exact rfl) ?_)
      refine lst (by kernel_rfl) rfl fun K hK=>?_
      go_simp
      refine hK _ _ ?_
      clear hK K hHeld HR9 hfbf hfbl
      have REL:=zH (show RtRel C w vx w0.heap.size V (C.P.gos.length-(j+1)) (.int .i64 ((j+1:Nat):Int)) (w9.setCell ⟨V'.fb,4,none⟩ (.slice (some ⟨g8,0,none⟩) (Bs.length+1) cap8))from
       ⟨j+1,_,_,_,rfl,rfl,hlt,HQ9.out,HFE.out,by rw[List.length_append,HRL.out];rfl,by
        rw[List.take_add_one,← HBS.out,show(zdb C.P)[j]? = some (zby C.P (j+1) C.P.gos.length) by
         unfold zdb
         rw[List.getElem?_map,List.getElem?_range hlt];rfl];rfl⟩)
      clear HQ9
      go_wp2_with fail
      go_roundg (C.P.gos.length-(j+1))
      case measure=>have:=HG.out;omega
      case rel=>rw[show((j:Int)+1)=((j+1:Nat):Int) by omega];exact REL.out
  ·obtain rfl:j=C.P.gos.length:=by omega
   have hBs:Bs=zdb C.P:=by rw[HBS.out,← zkw,List.take_length]
   subst hBs
   go_wp2_with fail
   have HQe:=zH (HQ.out.below ((Below.refl wr.heap.size wr).alloc (Nat.le_refl _) (.cells #[.func (.func 276) #[] #[.pointer (some ⟨w0.heap.size,0,none⟩)]] 37)) (Nat.le_refl _))
   refine(ztt HQe.out.f (by rw[zkw];omega) zww w0.heap.size wr.heap.size HQe.out.v (Blk.newAt rfl)).mono ?_
   rintro e w9 ⟨rfl,bl,hf9,hl9,hs9,hb9,hg9⟩
   have FIN:=zH (show ∃ V' Rs Bs,V'.fb=V.fb∧zec C w9 V' Rs Bs∧Below w.heap.size w w9∧Blk w9 vx 296 #[.pointer (some ⟨V.fb,0,none⟩)]from
    ⟨V',Rs,bl,HFE.out,⟨hf9,HRL.out,by rw[hl9,zkw],fun s x h=>by have:=hs9 s x h;rwa [zkw]at this,hb9⟩,HQe.out.c.grown hg9 HQe.out.c.size HQe.out.bw,by rw[← HFE.out];exact HQe.out.o.append HQe.out.f.b hg9 (by decide)⟩)
   clear hf9 hl9 hs9 hb9 hg9
   go_wp2_with fail
   first | go_end0 | refine bodyPost_ret (results_none rfl _ _ _) rfl ?_
   exact⟨rfl,FIN.out⟩
end
end Go.Proofs.YtkmcihhndgdhpaaGreat
