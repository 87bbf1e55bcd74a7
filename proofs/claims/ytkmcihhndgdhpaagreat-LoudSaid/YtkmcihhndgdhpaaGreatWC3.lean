/- LowE LowF LowG LowG2 LowG3: parts of the walk. -/
import Derived.Test.YtkmcihhndgdhpaaGreatWA6
set_option maxRecDepth 100000
set_option maxHeartbeats 4000000
set_option linter.unusedSimpArgs false
set_option linter.unusedVariables false
namespace Go.Proofs.YtkmcihhndgdhpaaGreat
section
open Go.RowKit Go.Maps
attribute [local go_sem] zaq arV
def CLoop (C:LC)(w W0:World)(V:LV)(xb:Nat)(x:In)(t:Stm)(M:Except Flt (List Ar×Lo))(n:Nat)(kv:Value)(W:World):Prop :=
 ∃ (k:Nat) (s:Lo) (done:List Ar) (av:Value),n=t.args.length-k∧k≤t.args.length∧kv=.int .i64 k∧LE C W s V∧Blk W xb 309 (zas { x with args:=done } av).toArray ∧
  W.ownsRow W0.heap.size 306 2 av done.length (done.flatMap zgj)∧Below C.B w W∧w.heap.size≤W.heap.size∧W0.heap.size≤W.heap.size∧done.length=k∧M=zab (zcz s (t.args.drop k)) fun q=>.ok (done++q.1,q.2)
theorem zs8 {s:Lo}{l:List Nm}{k:Nat}{n:Nm}(h:l[k]? = some n):zcz s (l.drop k)=zab (argM s n) fun p=>zab (zcz p.2 (l.drop (k+1))) fun q=>.ok (p.1::q.1,q.2):=by
 obtain⟨hlt,rfl⟩:=List.getElem?_eq_some_iff.1 h
 rw[List.drop_eq_getElem_cons hlt,zcz]
theorem zwl {C:LC}{w W0 W W2:World}{V:LV}{xb g cap k:Nat}{x:In}{t:Stm}{M:Except Flt (List Ar×Lo)}{s1:Lo}{done:List Ar}{a:Ar}{av:Value}{o:Obj}(hk:k<t.args.length)(hL:LE C W s1 V)(hu:¬ Uses C V xb)(hX:Blk W xb 309 (zas { x with args:=done } av).toArray)
  (hR:W.ownsRow W0.heap.size 306 2 av done.length (done.flatMap zgj)) (hB:Below C.B w W) (hz:w.heap.size≤W.heap.size) (hz0:W0.heap.size≤W.heap.size) (h0:∀ k,Uses C V k→k<W0.heap.size) (hd:done.length=k) (hM:M=zab (zcz s1 (t.args.drop (k+1))) fun q=>.ok (done++a::q.1,q.2))
  (hrow:W2.ownsRow W0.heap.size 306 2 (.slice (some ⟨g,0,none⟩) (done.length+1) cap) (done.length+1) (done.flatMap zgj++zgj a)) (hg:(W.drew.alloc o).grownBy W2 av.ownBlock) :
  CLoop C w W0 V xb x t M (t.args.length-(k+1)) (.int .i64 ((k+1:Nat):Int)) (W2.setCell ⟨xb,12,none⟩ (.slice (some ⟨g,0,none⟩) (done.length+1) cap)):=by
 have hR':=(za2 hR).alloc o
 have hX2:=((hX.drew).alloc o).append hR' hg (by decide)
 have hBxb:C.B≤xb:=Nat.le_of_not_lt fun hlt=>hu (.inl hlt)
 have hrb:∀ k,av.ownBlock=some k→C.B≤k:=fun k e=>by
  have h1:=(hR.lt k e).1
  have h2:C.B≤k∨k<C.B:=by omega
  rcases h2 with h2 | h2
  ·exact h2
  ·have:=h0 k (.inl h2);omega
 have hW2:Below C.B W W2:=(((Below.refl C.B W).drew.alloc hL.bel.size o)).grown hg (by simp;exact Nat.le_succ_of_le hL.bel.size) (fun k e=>hrb k e)
 have hL2:LE C W2 s1 V:=hL.same (hL.bel.trans hW2) fun j hj _=>by
  rw[hg.block j (by simp;exact Nat.lt_succ_of_lt (hL.lt hj)) (by
   intro e
   have:=(hR.lt j e.symm).1
   have:=h0 j hj
   omega)]
  exact Below.heap_alloc _ o j (hL.lt hj)
 refine⟨k+1,s1,done++[a],.slice (some ⟨g,0,none⟩) (done.length+1) cap,rfl,hk,rfl,hL2.far hu _,(hX2.set_ 12 _).cast (by simp[zas]),?_,(hB.trans hW2).setCell hBxb _,?_,?_,by simp[hd],?_⟩
 ·rw[List.length_append,List.flatMap_append]
  exact zaj (by simpa using hrow) hX2 (by decide) _ _
 ·have:=hW2.size;simp[World.setCell]at this ⊢;omega
 ·have:=hW2.size;simp[World.setCell]at this ⊢;omega
 ·rw[hM]
  congr 1
  funext q
  simp
theorem zuh (C:LC)(w:World)(s:Lo)(V:LV)(sp xb b:Nat)(t:Stm)(x:In)(hV:V.lm=some b)(h:LE C w s V)(ht:TS C sp t)(hx:XE C w V xb x (.slice none 0 0))(hxa:x.args=[])(c:Nat)(f:Fu)(hg:mget s.funs t.f.text=some c)(hf:s.fs[c]? = some f)(hn:t.args.length=f.params) :
  Calls Tryz.prog 313 #[.pointer (some ⟨C.lb,0,none⟩),.pointer (some ⟨sp,0,none⟩),.pointer (some ⟨xb,0,none⟩)] w (zj7 C w V xb (zc2 s t x)):=by
 have HM:=zH (show zc2 s t x=zab (zcz s t.args) fun p=>.ok ({ x with call:=c,args:=x.args++p.1 },p.2) by unfold zc2;rw[hg];simp only;rw[if_pos (by unfold Lo.paramsOf;rw[hf];exact hn)])
 have HK:=zH (show zcm s.funs t.f.text=c by unfold zcm;rw[hg])
 have hc5:c<s.fs.length:=(List.getElem?_eq_some_iff.1 hf).1
 have hc6:s.fs.length≤5:=by rw[h.i.fl];exact h.i.f5
 obtain⟨fg,fcap,hfv,_,_⟩:=h.fr.form (by omega)
 have HPC:=zH (show ∀ W,LE C W s V→W.cell? ⟨fg,c*5+1,none⟩=some (.int .i64 f.params)from fun W hW=>by
  have:=hW.fr
  rw[hfv]at this
  rw[this.cellAt (c*5+1) (by omega),zj1 hf 1 (by omega)]
  rfl)
 have HFV:=zH hfv
 clear hg hf hfv
 have hne2:((t.args.length:Int) != (f.params:Int))=false:=bne_eq_false_iff_eq.2 (by omega)
 have HXA:=zH hxa
 clear hxa
 obtain⟨hl,hp,hfl,hfp,hll,hlp,hne⟩:=h.cells
 obtain⟨_,_,_,_,_,_,hs0,hsl,_⟩:=h.tcells ht
 have hsx:sp≠xb:=fun e=>hx.u (.inl (e ▸ ht.lt))
 have hxc:∀ j,w.cell? ⟨xb,j,none⟩=#[.int .i64 x.op,.int .i64 x.place,.int .i64 x.fn,.int .i64 x.x,.bool x.y.c,.int .i64 x.y.n,.bool x.z.c,.int .i64 x.z.n,.int .i64 x.bin,.int .i64 x.var,.int .i64 x.site,.int .i64 x.call,.slice none 0 0,.int .i64 x.to][j]? := hx.b.cell
 have hxf:=hx.b.frozen
 have hxl:=hx.b.lt
 have hxB:C.B≤xb:=Nat.le_of_not_lt fun hlt=>hx.u (.inl hlt)
 have H:=zH h
 have HT:=zH ht
 have HX:=zH hx
 have HXB:=zH hxB
 clear h hx ht hxB
 go_enter Tryz.func313,Tryz.ntmps313
 go_wp2_with fail
 go_cut [] (fun wx=>zoh C w s V xb { x with call:=c } wx)
 case first =>
  go_region_with (go_at_call 114;refine(zbo _ _ s.funs _ ((H.out.drew).fm) (zal HT.out.ok.f)).mono ?_;rintro e w' ⟨rfl,rfl⟩;rw[HK.out])
  all_goals go_wp2_with fail
  all_goals go_meet
  all_goals exact⟨(H.out.far HX.out.u _).drew,(HX.out.store 11 _ (by simp[zas])).drew,((Chg.refl _ _ _ _).setX HXB.out (by simp) _).drew⟩
 case rest =>
  obtain⟨hL,hX,hC⟩:=hcut
  clear hl hp hfl hfp hll hlp hs0 hsl hxc hxf hxl
  obtain⟨hl,hp,hfl,hfp,hll,hlp,_⟩:=hL.cells
  rw[HFV.out]at hp
  obtain⟨aa,ac,ba,bc,ea,ec,hs0,hsl,hNA,_⟩:=hL.tcells HT.out
  have hxc:∀ j,wc.cell? ⟨xb,j,none⟩=#[.int .i64 x.op,.int .i64 x.place,.int .i64 x.fn,.int .i64 x.x,.bool x.y.c,.int .i64 x.y.n,.bool x.z.c,.int .i64 x.z.n,.int .i64 x.bin,.int .i64 x.var,.int .i64 x.site,.int .i64 c,.slice none 0 0,.int .i64 x.to][j]? := hX.b.cell
  have hxl:=hX.b.lt
  have hpc:=HPC.out _ hL
  have HC:=zH hC
  have HL:=zH hL
  have HX2:=zH hX
  have HNA:=zH hNA
  clear hL hX hC hNA
  go_wp2_with fail
  go_quiet (fail)
  go_wp2_with fail
  refine zbi (fun W=>LE C W s V∧XE C W V xb { x with call:=c } (.slice none 0 0)∧Chg C.B [] [xb] w W) ⟨HL.out.drewN _,HX2.out.drewN _,HC.out.drewN _⟩ ?_
  rintro W0 ⟨hL0,hX0,hC0⟩
  have START:=zH (show CLoop C w W0 V xb { x with call:=c } t (zcz s t.args) t.args.length (.int .i64 (0:Int)) W0 from
   ⟨0,s,[],.slice none 0 0,rfl,Nat.zero_le _,rfl,hL0,hX0.b.cast (by simp[zas]),World.ownsRow_nil _ _ _ _,hC0.below H.out.bel.size,hC0.size,Nat.le_refl _,rfl,by rw[List.drop_zero];cases zcz s t.args <;> simp[zab]⟩)
  have HU0:=zH (show ∀ k,Uses C V k→k<W0.heap.size from fun k hk=>hL0.lt hk)
  clear hL0 hX0 hC0 hl hp hfl hfp hll hlp hs0 hsl hxc hxl hpc hne2
  go_loopg [6] t.args.length (fun n v6 wr=>CLoop C w W0 V xb { x with call:=c } t (zcz s t.args) n v6 wr)
  case atStart=>exact START.out
  case round =>
   obtain⟨k,s2,done,av,hn,hk,rfl,hL,hX,hR,hB,hz,hz0,hd,hM⟩:=hrel
   obtain⟨hl,_,_,_,hll,_,_⟩:=hL.cells
   obtain⟨aa,ac,ba,bc,ea,ec,hs0,hsl,hNA,_⟩:=hL.tcells HT.out
   have HLr:=zH hL
   have HXr:=zH hX
   have HRr:=zH hR
   have HBr:=zH hB
   have HZ:=zH hz
   have HZ0:=zH hz0
   have HD:=zH hd
   have HMr:=zH hM
   have HN:=zH hn
   have HNA2:=zH hNA
   clear hL hX hR hB hz hz0 hd hM hn hNA
   by_cases hlt:k<t.args.length
   ·obtain⟨n,hn⟩:∃ n,t.args[k]? = some n:=⟨_,List.getElem?_eq_getElem hlt⟩
    obtain⟨ng,ncap,hnv,_,_⟩:=HNA2.out.form (by omega)
    injection hnv with hnv1 hnv2 hnv3
    subst hnv1
    have hq:∀ j,j<4→wr.cell? ⟨ng,k*4+j,none⟩=(zdx n)[j]? := fun j hj=>by rw[HNA2.out.cellAt (k*4+j) (by omega),znp hn j hj]
    have q0:wr.cell? ⟨ng,k*4,none⟩=some (.string n.text):=hq 0 (by omega)
    have q1:wr.cell? ⟨ng,k*4+1,none⟩=some (.int .i64 n.at_):=hq 1 (by omega)
    have q2:wr.cell? ⟨ng,k*4+2,none⟩=some (.bool n.num):=hq 2 (by omega)
    have q3:wr.cell? ⟨ng,k*4+3,none⟩=some (.int .i64 n.n):=hq 3 (by omega)
    have HMs:=zH (zs8 (s:=s2) hn)
    have HNok:=zH (zal (HT.out.ok.args.1 n (List.mem_of_getElem? hn)))
    clear hq hn hnv2 hnv3
    go_wp2_with fail
    refine(zea C wr s2 V n b hV HLr.out HNok.out).mono ?_
    rintro e w1 (⟨p,v,hr,rfl,rfl,hL1,hch⟩ | ⟨f,b',hr,rfl,hfb,hle,hch⟩)
    rotate_left
    ·exact⟨rfl,.fault (HM.out.trans (by rw[HMr.out,HMs.out,hr];rfl)) hfb (Nat.le_trans HZ.out hle) (HBr.out.trans hch)⟩
    have hub:xb≠b:=fun e=>HX.out.u (by rw[e];exact .inr (.inr (.inr (.inr (.inr (.inr (.inl hV)))))))
    have hX1:=HXr.out.chg hch (by simp) (by simpa using hub)
    have hR1:=zcs HRr.out hch (by simp) (by
     intro j hj hm
     rw[List.mem_singleton.1 hm]at hj
     obtain⟨cs,h1⟩:=zba HRr.out hj
     exact zaf.cellFar (HLr.out.lm b hV).1 h1 rfl)
    obtain⟨va,vc,hav⟩:=zat hR1
    subst hav
    have MS:=zH (show zcz s t.args=zab (zcz p.2 (t.args.drop (k+1))) fun q=>.ok (done++p.1::q.1,q.2) by
     rw[HMr.out,HMs.out,hr,zae,zig];rfl)
    have hdl:done.length≤701:=by
     have:=HD.out;have:=HT.out.ok.args.2;omega
    have HW:=zH (show ∀ o,LE C (w1.alloc o) p.2 V∧Blk (w1.alloc o) xb 309 (zas { { x with call:=c } with args:=done } (.slice va done.length vc)).toArray∧(w1.alloc o).ownsRow W0.heap.size 306 2 (.slice va done.length vc) done.length (done.flatMap zgj) ∧
     Below C.B w (w1.alloc o)∧w.heap.size≤(w1.alloc o).heap.size∧W0.heap.size≤(w1.alloc o).heap.size from fun o =>
     ⟨hL1.alloc o,hX1.alloc o,hR1.alloc o,(HBr.out.trans (hch.below HLr.out.bel.size)).alloc (Nat.le_trans HLr.out.bel.size hch.size) o,by simp;exact Nat.le_succ_of_le (Nat.le_trans HZ.out hch.size),by simp;exact Nat.le_succ_of_le (Nat.le_trans HZ0.out hch.size)⟩)
    clear hr hL1 hch hX1 hR1 hl hll hs0 hsl q0 q1 q2 q3 HMs HMr
    go_upto_region 9 with fail
    refine zbi (fun W=>(LE C W p.2 V∧Blk W xb 309 (zas { { x with call:=c } with args:=done } (.slice va done.length vc)).toArray∧W.ownsRow W0.heap.size 306 2 (.slice va done.length vc) done.length (done.flatMap zgj) ∧
     Below C.B w W∧w.heap.size≤W.heap.size∧W0.heap.size≤W.heap.size)∧Blk W w1.heap.size 306 #[.bool p.1.c,.int .i64 p.1.n]) ⟨HW.out _,Blk.newAt rfl⟩ ?_
    rintro W ⟨⟨hL1,hX1,hR1,hB1,hz1,hz2⟩,hA1⟩
    have hxc:∀ j,W.cell? ⟨xb,j,none⟩=#[.int .i64 x.op,.int .i64 x.place,.int .i64 x.fn,.int .i64 x.x,.bool x.y.c,.int .i64 x.y.n,.bool x.z.c,.int .i64 x.z.n,.int .i64 x.bin,.int .i64 x.var,.int .i64 x.site,.int .i64 c,.slice va done.length vc,.int .i64 x.to][j]? := hX1.cell
    have hxl:=hX1.lt
    have hac:=hA1.cell
    have hal:=hA1.lt
    have HL1:=zH hL1
    have HX1:=zH hX1
    have HR1:=zH hR1
    have HB1:=zH hB1
    have HZ1:=zH hz1
    have HZ2:=zH hz2
    clear hL1 hX1 hR1 hB1 hz1 hz2 hA1 HW
    go_region_law (refine zc5 tyAr rfl _ _ rfl W0.heap.size _ done.length (done.flatMap zgj) W.heap.size _ _ ((za2 HR1.out).alloc _) (Blk.newAt (by simp)) rfl rfl rfl (by simp[Value.oneCell']) (by omega) (Nat.le_trans HZ2.out (by simp)) ?_;intro g cap w2 hrow2 hg2 hat2;(have hX2:=Blk.append ((HX1.out.drew).alloc _) ((za2 HR1.out).alloc _) hg2 (by decide));(have hx2c:∀ j,w2.cell? ⟨xb,j,none⟩=#[.int .i64 x.op,.int .i64 x.place,.int .i64 x.fn,.int .i64 x.x,.bool x.y.c,.int .i64 x.y.n,.bool x.z.c,.int .i64 x.z.n,.int .i64 x.bin,.int .i64 x.var,.int .i64 x.site,.int .i64 c,.slice va done.length vc,.int .i64 x.to][j]? := hX2.cell);(have hx2f:=hX2.frozen);(have HN2:=zH (zwl hlt HL1.out HX.out.u HX1.out HR1.out HB1.out HZ1.out HZ2.out HU0.out HD.out MS.out hrow2 hg2));clear hX2 hrow2 hg2 hat2)
    all_goals go_wp2_with fail
    all_goals (go_roundg (t.args.length-(k+1)))
    all_goals first | (case measure=>have:=HN.out;omega) | skip
    all_goals (case rel=>rw[show wrap64 ((k:Int)+1)=((k+1:Nat):Int) by rw[show((k+1:Nat):Int)=(k:Int)+1 by omega];exact IntWalk.wrap64_in ((k:Int)+1) (by have:=HD.out;omega)];exact HN2.out)
   ·obtain rfl:k=t.args.length:=by omega
    have MF:=zH (show zc2 s t x=.ok ({ x with call:=c,args:=done },s2)from HM.out.trans (by rw[HMr.out,List.drop_length,zcz,zae,zae,HXA.out];simp))
    have FIN:=zH (show zj7 C w V xb (zc2 s t x) (.returned (.tuple #[])) wr from
     .inl ⟨_,_,MF.out,rfl,rfl,HLr.out,av,⟨HXr.out,zbn HRr.out (Nat.le_of_not_lt fun hlt=>by have:=HU0.out _ (.inl hlt);omega),HX.out.u⟩⟩)
    go_wp2_with fail
    go_end0
    exact FIN.out
theorem zpg (C:LC)(w:World)(s:Lo)(V:LV)(sp xb b:Nat)(t:Stm)(x:In)(hV:V.lm=some b)(h:LE C w s V)(ht:TS C sp t)(hx:XE C w V xb x (.slice none 0 0))(hxa:x.args=[]) :
  Calls Tryz.prog 313 #[.pointer (some ⟨C.lb,0,none⟩),.pointer (some ⟨sp,0,none⟩),.pointer (some ⟨xb,0,none⟩)] w (zj7 C w V xb (zc2 s t x)):=by
 cases hg:mget s.funs t.f.text with
 | none=>exact zvc C w s V sp xb b t x hV h ht hx hxa hg
 | some c =>
  have hc:=h.i.fok _ (zfi hg)
  have hf:s.fs[c]? = some s.fs[c]:=List.getElem?_eq_getElem hc
  by_cases hn:t.args.length=(s.fs[c]).params
  ·exact zuh C w s V sp xb b t x hV h ht hx hxa c _ hg hf hn
  ·exact zxz C w s V sp xb b t x hV h ht hx hxa c _ hg hf hn
end
section
open Go.RowKit Go.Maps
attribute [local go_sem] zaq arV
theorem zn2 {α : Type}{l:List α}{x:α}{n:Nat}(h:l.length<n):(l++[x]).length≤n:=by rw[List.length_append];exact h
def zhj (C:LC)(w:World)(V V':LV):Prop:=V'.lm=V.lm∧∀ k,k<w.heap.size→Uses C V' k→Uses C V k
theorem zhj.refl (C:LC)(w:World)(V:LV):zhj C w V V:=⟨rfl,fun _ _ h=>h⟩
theorem at_step {C:LC}{w1 w2:World}{s:Lo}{V:LV}{v g cap:Nat}{o:Obj}(h1:LE C w1 s V)(hb:s.at_.length<48)
  (hrow:w2.ownsRow C.B 3 1 (.slice (some ⟨g,0,none⟩) (s.at_.length+1) cap) (s.at_.length+1) (zb5 s.at_++[ienc v])) (hg:(w1.drew.alloc o).grownBy w2 V.av.ownBlock) (hat:V.av.ownBlock=some g∨g=(w1.drew.alloc o).heap.size) :
  LE C (w2.setCell ⟨C.pb,5,none⟩ (.slice (some ⟨g,0,none⟩) (s.at_.length+1) cap)) { s with at_:=s.at_++[v] } { V with av:=.slice (some ⟨g,0,none⟩) (s.at_.length+1) cap }∧zhj C w1 V { V with av:=.slice (some ⟨g,0,none⟩) (s.at_.length+1) cap }:=by
 have hd:=(h1.drew).alloc o
 have hb2:Below C.B C.w0 w2:=hd.bel.grown hg hd.bel.size fun k e=>(hd.atr.lt k e).1
 have hp2:Blk w2 C.pb 211 _:=hd.p.append hd.atr hg (by decide)
 obtain⟨x1,x2,x3,x4,x5,x6⟩:=hd.grown (w3:=w2.setCell ⟨C.pb,5,none⟩ (.slice (some ⟨g,0,none⟩) (s.at_.length+1) cap)) hd.atr (fun k hk h1 h2=>(Below.heap_setCell _ _ _ _ h1).trans (hg.block k hk h2)) (by decide)
 have hnew:(w2.setCell ⟨C.pb,5,none⟩ (.slice (some ⟨g,0,none⟩) (s.at_.length+1) cap)).ownsRow C.B 3 1 (.slice (some ⟨g,0,none⟩) (s.at_.length+1) cap) (s.at_++[v]).length (zb5 (s.at_++[v])):=by
  have:=zaj hrow hp2 (by decide) 5 (.slice (some ⟨g,0,none⟩) (s.at_.length+1) cap)
  simpa [zb5] using this
 have hf1:=zjb (n:=s.at_.length+1) hat h1.s1 (fun k hk=>(hd.nr.lt k hk).2) cap
 have hf2:=zjb (n:=s.at_.length+1) hat h1.s2 (fun k hk=>(hd.gr.lt k hk).2) cap
 refine⟨⟨hd.c,hb2.setCell hd.c.pb _,x1,(hp2.set_ 5 _).cast (by simp),x2,x3,x4,x5,x6 hd.fr (.inl (by decide)) (by decide),x6 hd.cr (.inl (by decide)) (by decide),hd.asl,fun k a i ha hi=>x6 (hd.ar k a i ha hi) (.inl (by decide)) (by decide),
  hnew,x6 hd.nr (.inr hd.s1) (by decide),x6 hd.gr (.inr hd.s2) (by decide),hf1,hf2,hd.s3,⟨hd.i.fl,hd.i.f5,zn2 hb,hd.i.nl,hd.i.gl,hd.i.fok⟩⟩,rfl,?_⟩
 intro k hk hu
 have hgk:(some g=some k)→Uses C V k:=fun e=>by
  injection e with e
  subst e
  rcases hat with hat | hat
  ·exact .inr (.inr (.inr (.inr (.inr (.inr (.inr (.inr (.inr (.inl hat)))))))))
  ·simp at hat;omega
 rcases hu with hu | hu | hu | hu | hu | hu | hu | hu | hu | hu | hu | hu | hu
 all_goals first
  | exact hgk hu
  | exact .inl hu
  | exact .inr (.inl hu)
  | exact .inr (.inr (.inl hu))
  | exact .inr (.inr (.inr (.inl hu)))
  | exact .inr (.inr (.inr (.inr (.inl hu))))
  | exact .inr (.inr (.inr (.inr (.inr (.inl hu)))))
  | exact .inr (.inr (.inr (.inr (.inr (.inr (.inl hu))))))
  | exact .inr (.inr (.inr (.inr (.inr (.inr (.inr (.inl hu)))))))
  | exact .inr (.inr (.inr (.inr (.inr (.inr (.inr (.inr (.inl hu))))))))
  | exact .inr (.inr (.inr (.inr (.inr (.inr (.inr (.inr (.inr (.inl hu)))))))))
  | exact .inr (.inr (.inr (.inr (.inr (.inr (.inr (.inr (.inr (.inr (.inl hu))))))))))
  | exact .inr (.inr (.inr (.inr (.inr (.inr (.inr (.inr (.inr (.inr (.inr (.inl hu)))))))))))
  | exact .inr (.inr (.inr (.inr (.inr (.inr (.inr (.inr (.inr (.inr (.inr (.inr hu)))))))))))
theorem zvr {C:LC}{w1 w2:World}{s:Lo}{V:LV}{v g cap:Nat}{o:Obj}(h1:LE C w1 s V)(hb:s.news.length<6)
  (hrow:w2.ownsRow C.B 3 1 (.slice (some ⟨g,0,none⟩) (s.news.length+1) cap) (s.news.length+1) (zb5 s.news++[ienc v])) (hg:(w1.drew.alloc o).grownBy w2 V.nv.ownBlock) (hat:V.nv.ownBlock=some g∨g=(w1.drew.alloc o).heap.size) :
  LE C (w2.setCell ⟨C.pb,6,none⟩ (.slice (some ⟨g,0,none⟩) (s.news.length+1) cap)) { s with news:=s.news++[v] } { V with nv:=.slice (some ⟨g,0,none⟩) (s.news.length+1) cap }∧zhj C w1 V { V with nv:=.slice (some ⟨g,0,none⟩) (s.news.length+1) cap }:=by
 have hd:=(h1.drew).alloc o
 have hb2:Below C.B C.w0 w2:=hd.bel.grown hg hd.bel.size fun k e=>(hd.nr.lt k e).1
 have hp2:Blk w2 C.pb 211 _:=hd.p.append hd.nr hg (by decide)
 obtain⟨x1,x2,x3,x4,x5,x6⟩:=hd.grown (w3:=w2.setCell ⟨C.pb,6,none⟩ (.slice (some ⟨g,0,none⟩) (s.news.length+1) cap)) hd.nr (fun k hk h1 h2=>(Below.heap_setCell _ _ _ _ h1).trans (hg.block k hk h2)) (by decide)
 have hnew:(w2.setCell ⟨C.pb,6,none⟩ (.slice (some ⟨g,0,none⟩) (s.news.length+1) cap)).ownsRow C.B 3 1 (.slice (some ⟨g,0,none⟩) (s.news.length+1) cap) (s.news++[v]).length (zb5 (s.news++[v])):=by
  have:=zaj hrow hp2 (by decide) 6 (.slice (some ⟨g,0,none⟩) (s.news.length+1) cap)
  simpa [zb5] using this
 have hf1:=zjb (n:=s.news.length+1) hat h1.s1.symm (fun k hk=>(hd.atr.lt k hk).2) cap
 have hf2:=zjb (n:=s.news.length+1) hat h1.s3 (fun k hk=>(hd.gr.lt k hk).2) cap
 refine⟨⟨hd.c,hb2.setCell hd.c.pb _,x1,(hp2.set_ 6 _).cast (by simp),x2,x3,x4,x5,x6 hd.fr (.inl (by decide)) (by decide),x6 hd.cr (.inl (by decide)) (by decide),hd.asl,fun k a i ha hi=>x6 (hd.ar k a i ha hi) (.inl (by decide)) (by decide),
  x6 hd.atr (.inr hd.s1.symm) (by decide),hnew,x6 hd.gr (.inr hd.s3) (by decide),hf1.symm,hd.s2,hf2,⟨hd.i.fl,hd.i.f5,hd.i.al,zn2 hb,hd.i.gl,hd.i.fok⟩⟩,rfl,?_⟩
 intro k hk hu
 have hgk:(some g=some k)→Uses C V k:=fun e=>by
  injection e with e
  subst e
  rcases hat with hat | hat
  ·exact .inr (.inr (.inr (.inr (.inr (.inr (.inr (.inr (.inr (.inr (.inl hat))))))))))
  ·simp at hat;omega
 rcases hu with hu | hu | hu | hu | hu | hu | hu | hu | hu | hu | hu | hu | hu
 all_goals first
  | exact hgk hu
  | exact .inl hu
  | exact .inr (.inl hu)
  | exact .inr (.inr (.inl hu))
  | exact .inr (.inr (.inr (.inl hu)))
  | exact .inr (.inr (.inr (.inr (.inl hu))))
  | exact .inr (.inr (.inr (.inr (.inr (.inl hu)))))
  | exact .inr (.inr (.inr (.inr (.inr (.inr (.inl hu))))))
  | exact .inr (.inr (.inr (.inr (.inr (.inr (.inr (.inl hu)))))))
  | exact .inr (.inr (.inr (.inr (.inr (.inr (.inr (.inr (.inl hu))))))))
  | exact .inr (.inr (.inr (.inr (.inr (.inr (.inr (.inr (.inr (.inl hu)))))))))
  | exact .inr (.inr (.inr (.inr (.inr (.inr (.inr (.inr (.inr (.inr (.inl hu))))))))))
  | exact .inr (.inr (.inr (.inr (.inr (.inr (.inr (.inr (.inr (.inr (.inr (.inl hu)))))))))))
  | exact .inr (.inr (.inr (.inr (.inr (.inr (.inr (.inr (.inr (.inr (.inr (.inr hu)))))))))))
theorem gos_step {C:LC}{w1 w2:World}{s:Lo}{V:LV}{v g cap:Nat}{o:Obj}(h1:LE C w1 s V)(hb:s.gos.length<5)
  (hrow:w2.ownsRow C.B 3 1 (.slice (some ⟨g,0,none⟩) (s.gos.length+1) cap) (s.gos.length+1) (zb5 s.gos++[ienc v])) (hg:(w1.drew.alloc o).grownBy w2 V.gv.ownBlock) (hat:V.gv.ownBlock=some g∨g=(w1.drew.alloc o).heap.size) :
  LE C (w2.setCell ⟨C.pb,7,none⟩ (.slice (some ⟨g,0,none⟩) (s.gos.length+1) cap)) { s with gos:=s.gos++[v] } { V with gv:=.slice (some ⟨g,0,none⟩) (s.gos.length+1) cap }∧zhj C w1 V { V with gv:=.slice (some ⟨g,0,none⟩) (s.gos.length+1) cap }:=by
 have hd:=(h1.drew).alloc o
 have hb2:Below C.B C.w0 w2:=hd.bel.grown hg hd.bel.size fun k e=>(hd.gr.lt k e).1
 have hp2:Blk w2 C.pb 211 _:=hd.p.append hd.gr hg (by decide)
 obtain⟨x1,x2,x3,x4,x5,x6⟩:=hd.grown (w3:=w2.setCell ⟨C.pb,7,none⟩ (.slice (some ⟨g,0,none⟩) (s.gos.length+1) cap)) hd.gr (fun k hk h1 h2=>(Below.heap_setCell _ _ _ _ h1).trans (hg.block k hk h2)) (by decide)
 have hnew:(w2.setCell ⟨C.pb,7,none⟩ (.slice (some ⟨g,0,none⟩) (s.gos.length+1) cap)).ownsRow C.B 3 1 (.slice (some ⟨g,0,none⟩) (s.gos.length+1) cap) (s.gos++[v]).length (zb5 (s.gos++[v])):=by
  have:=zaj hrow hp2 (by decide) 7 (.slice (some ⟨g,0,none⟩) (s.gos.length+1) cap)
  simpa [zb5] using this
 have hf1:=zjb (n:=s.gos.length+1) hat h1.s2.symm (fun k hk=>(hd.atr.lt k hk).2) cap
 have hf2:=zjb (n:=s.gos.length+1) hat h1.s3.symm (fun k hk=>(hd.nr.lt k hk).2) cap
 refine⟨⟨hd.c,hb2.setCell hd.c.pb _,x1,(hp2.set_ 7 _).cast (by simp),x2,x3,x4,x5,x6 hd.fr (.inl (by decide)) (by decide),x6 hd.cr (.inl (by decide)) (by decide),hd.asl,fun k a i ha hi=>x6 (hd.ar k a i ha hi) (.inl (by decide)) (by decide),
  x6 hd.atr (.inr hd.s2.symm) (by decide),x6 hd.nr (.inr hd.s3.symm) (by decide),hnew,hd.s1,hf1.symm,hf2.symm,⟨hd.i.fl,hd.i.f5,hd.i.al,hd.i.nl,zn2 hb,hd.i.fok⟩⟩,rfl,?_⟩
 intro k hk hu
 have hgk:(some g=some k)→Uses C V k:=fun e=>by
  injection e with e
  subst e
  rcases hat with hat | hat
  ·exact .inr (.inr (.inr (.inr (.inr (.inr (.inr (.inr (.inr (.inr (.inr (.inl hat)))))))))))
  ·simp at hat;omega
 rcases hu with hu | hu | hu | hu | hu | hu | hu | hu | hu | hu | hu | hu | hu
 all_goals first
  | exact hgk hu
  | exact .inl hu
  | exact .inr (.inl hu)
  | exact .inr (.inr (.inl hu))
  | exact .inr (.inr (.inr (.inl hu)))
  | exact .inr (.inr (.inr (.inr (.inl hu))))
  | exact .inr (.inr (.inr (.inr (.inr (.inl hu)))))
  | exact .inr (.inr (.inr (.inr (.inr (.inr (.inl hu))))))
  | exact .inr (.inr (.inr (.inr (.inr (.inr (.inr (.inl hu)))))))
  | exact .inr (.inr (.inr (.inr (.inr (.inr (.inr (.inr (.inl hu))))))))
  | exact .inr (.inr (.inr (.inr (.inr (.inr (.inr (.inr (.inr (.inl hu)))))))))
  | exact .inr (.inr (.inr (.inr (.inr (.inr (.inr (.inr (.inr (.inr (.inl hu))))))))))
  | exact .inr (.inr (.inr (.inr (.inr (.inr (.inr (.inr (.inr (.inr (.inr (.inl hu)))))))))))
  | exact .inr (.inr (.inr (.inr (.inr (.inr (.inr (.inr (.inr (.inr (.inr (.inr hu)))))))))))
end
section
open Go.RowKit Go.Maps
attribute [local go_sem] zaq arV
def zf0 (C:LC)(w:World)(V:LV)(xb:Nat)(M:Except Flt (In×Lo)):Ending→World→Prop :=
 zci C w M fun p v w'=>v=.tuple #[]∧∃ V' av,LE C w' p.2 V'∧V'.lm=V.lm∧XE C w' V' xb p.1 av
theorem XE.ints {C:LC}{w1 w2:World}{s:Lo}{V V':LV}{xb n i:Nat}{x:In}{av v u:Value}{ys:List Value}{o:Obj}(h:XE C w1 V xb x av)(h1:LE C w1 s V)(hown:w1.ownsRow C.B 3 1 v n ys)(hg:(w1.drew.alloc o).grownBy w2 v.ownBlock)(hw:zhj C w1 V V') :
  XE C (w2.setCell ⟨C.pb,i,none⟩ u) V' xb x av:=by
 have hR:=(za2 hown).alloc o
 have hp2:=(h1.p.drew.alloc o).append hR hg (by decide)
 exact⟨((h.b.drew.alloc o).append hR hg (by decide)).far (h.b.ne_ h1.p (by decide)) _,zaj (zhg hR hg (by decide) ((za2 h.a).alloc o)) hp2 (by decide) _ _,fun hu=>h.u (hw.2 _ h.b.lt hu)⟩
theorem XE.arg {C:LC}{w w1:World}{s:Lo}{V:LV}{xb b:Nat}{x:In}{av:Value}(h:XE C w V xb x av)(hL:LE C w s V)(hV:V.lm=some b)(hc:Chg C.B [] [b] w w1):XE C w1 V xb x av :=
 h.chg hc (by simp) (by simp) (by
  intro hm
  rw[List.mem_singleton.1 hm]at h
  exact h.u (.inr (.inr (.inr (.inr (.inr (.inr (.inl hV)))))))) (fun k hk hm=>by
  rw[List.mem_singleton.1 hm]at hk
  obtain⟨cs,h1⟩:=zba h.a hk
  exact zaf.cellFar (hL.lm b hV).1 h1 rfl)
def AppMid (C:LC)(w:World)(s:Lo)(V:LV)(xb:Nat)(x:In)(W:World):Prop :=
 ∃ V',LE C W s V'∧V'.lm=V.lm∧XE C W V' xb x (.slice none 0 0)∧Below C.B w W∧w.heap.size≤W.heap.size
theorem zq7 {C:LC}{w w1 w2:World}{s:Lo}{V V':LV}{xb n i:Nat}{x:In}{v u:Value}{ys:List Value}{o:Obj}(hc:Chg C.B [] [xb] w w1)(hB:C.B≤w.heap.size)(h:LE C (w2.setCell ⟨C.pb,i,none⟩ u) s V'∧zhj C w1 V V')
  (hX:∀ V',zhj C w1 V V'→XE C (w2.setCell ⟨C.pb,i,none⟩ u) V' xb x (.slice none 0 0)) (hb:Below C.B C.w0 w1) (hown:w1.ownsRow C.B 3 1 v n ys) (hg:(w1.drew.alloc o).grownBy w2 v.ownBlock) :
  AppMid C w s V xb x (w2.setCell ⟨C.pb,i,none⟩ u):=by
 have h2:Below C.B w1 w2:=((Below.refl C.B w1).drew.alloc hb.size o).grown hg (by simp;exact Nat.le_succ_of_le hb.size) (fun k e=>(hown.lt k e).1)
 have hc1:=hc.below hB
 have h3:Below C.B w (w2.setCell ⟨C.pb,i,none⟩ u):=(hc1.trans h2).setCell h.1.c.pb _
 exact⟨V',h.1,h.2.1,hX V' h.2,h3,h3.size⟩
theorem zud (C:LC)(w:World)(s:Lo)(V:LV)(sp xb b:Nat)(t:Stm)(x:In)(hV:V.lm=some b)(h:LE C w s V)(ht:TS C sp t)(hx:XE C w V xb x (.slice none 0 0))(hxa:x.args=[])(ho:t.op=6)(hf:s.news.length=6) :
  Calls Tryz.prog 298 #[.pointer (some ⟨C.lb,0,none⟩),.pointer (some ⟨sp,0,none⟩),.pointer (some ⟨xb,0,none⟩)] w (zf0 C w V xb (zbv s t x)):=by
 have HM:=zH (show zbv s t x=.error ⟨8,t.mark⟩ by unfold zbv;rw[if_pos ho,if_pos hf])
 obtain⟨na,nc,hnv⟩:=zat h.nr
 obtain⟨hl,hp,hfl,hfp,hll,hlp,hne⟩:=h.cells
 obtain⟨_,_,_,_,_,_,hs0,hsl,_⟩:=h.tcells ht
 have hsx:sp≠xb:=fun e=>hx.u (.inl (e ▸ ht.lt))
 have hxc:∀ j,w.cell? ⟨xb,j,none⟩=#[.int .i64 x.op,.int .i64 x.place,.int .i64 x.fn,.int .i64 x.x,.bool x.y.c,.int .i64 x.y.n,.bool x.z.c,.int .i64 x.z.n,.int .i64 x.bin,.int .i64 x.var,.int .i64 x.site,.int .i64 x.call,.slice none 0 0,.int .i64 x.to][j]? := hx.b.cell
 have hxf:=hx.b.frozen
 have hxl:=hx.b.lt
 have hxB:C.B≤xb:=Nat.le_of_not_lt fun hlt=>hx.u (.inl hlt)
 have hlx:C.lb≠xb:=h.l.ne_ hx.b (by decide)
 have hpx:C.pb≠xb:=h.p.ne_ hx.b (by decide)
 have H:=zH h
 have HT:=zH ht
 have HX:=zH hx
 have HXA:=zH hxa
 have HXB:=zH hxB
 clear h hx ht hxB hxa
 rw[hnv]at hp
 have o6:(t.op:Int)=6:=by omega
 have f6:(s.news.length:Int)=6:=by omega
 clear ho hf hnv
 go_enter Tryz.func298,Tryz.ntmps298
 go_wp2_with fail
 refine(zdj _ _ _).mono ?_
 rintro e w4 ⟨rfl,rfl⟩
 exact⟨rfl,.fault HM.out (za1.new rfl) (Nat.le_refl _) ((Below.refl _ _).alloc H.out.bel.size _)⟩
theorem zul (C:LC)(w:World)(s:Lo)(V:LV)(sp xb b:Nat)(t:Stm)(x:In)(hV:V.lm=some b)(h:LE C w s V)(ht:TS C sp t)(hx:XE C w V xb x (.slice none 0 0))(hxa:x.args=[])(ho:t.op=7)(hf:s.gos.length=5) :
  Calls Tryz.prog 298 #[.pointer (some ⟨C.lb,0,none⟩),.pointer (some ⟨sp,0,none⟩),.pointer (some ⟨xb,0,none⟩)] w (zf0 C w V xb (zbv s t x)):=by
 have HM:=zH (show zbv s t x=.error ⟨8,t.mark⟩ by unfold zbv;rw[if_neg (by omega),if_pos ho,if_pos hf])
 obtain⟨na,nc,hnv⟩:=zat h.gr
 obtain⟨hl,hp,hfl,hfp,hll,hlp,hne⟩:=h.cells
 obtain⟨_,_,_,_,_,_,hs0,hsl,_⟩:=h.tcells ht
 have hsx:sp≠xb:=fun e=>hx.u (.inl (e ▸ ht.lt))
 have hxc:∀ j,w.cell? ⟨xb,j,none⟩=#[.int .i64 x.op,.int .i64 x.place,.int .i64 x.fn,.int .i64 x.x,.bool x.y.c,.int .i64 x.y.n,.bool x.z.c,.int .i64 x.z.n,.int .i64 x.bin,.int .i64 x.var,.int .i64 x.site,.int .i64 x.call,.slice none 0 0,.int .i64 x.to][j]? := hx.b.cell
 have hxf:=hx.b.frozen
 have hxl:=hx.b.lt
 have hxB:C.B≤xb:=Nat.le_of_not_lt fun hlt=>hx.u (.inl hlt)
 have hlx:C.lb≠xb:=h.l.ne_ hx.b (by decide)
 have hpx:C.pb≠xb:=h.p.ne_ hx.b (by decide)
 have H:=zH h
 have HT:=zH ht
 have HX:=zH hx
 have HXA:=zH hxa
 have HXB:=zH hxB
 clear h hx ht hxB hxa
 rw[hnv]at hp
 have o6:(t.op:Int)=7:=by omega
 have f6:(s.gos.length:Int)=5:=by omega
 clear ho hf hnv
 go_enter Tryz.func298,Tryz.ntmps298
 go_wp2_with fail
 refine(zdj _ _ _).mono ?_
 rintro e w4 ⟨rfl,rfl⟩
 exact⟨rfl,.fault HM.out (za1.new rfl) (Nat.le_refl _) ((Below.refl _ _).alloc H.out.bel.size _)⟩
theorem zwv (C:LC)(w:World)(s:Lo)(V:LV)(sp xb b:Nat)(t:Stm)(x:In)(hV:V.lm=some b)(h:LE C w s V)(ht:TS C sp t)(hx:XE C w V xb x (.slice none 0 0))(hxa:x.args=[])(ho:t.op=11) :
  Calls Tryz.prog 298 #[.pointer (some ⟨C.lb,0,none⟩),.pointer (some ⟨sp,0,none⟩),.pointer (some ⟨xb,0,none⟩)] w (zf0 C w V xb (zbv s t x)):=by
 have HM:=zH (show zbv s t x=zc2 s t x by unfold zbv;rw[if_neg (by omega),if_neg (by omega),if_pos ho])
 obtain⟨hl,hp,hfl,hfp,hll,hlp,hne⟩:=h.cells
 obtain⟨_,_,_,_,_,_,hs0,hsl,_⟩:=h.tcells ht
 have hsx:sp≠xb:=fun e=>hx.u (.inl (e ▸ ht.lt))
 have hxc:∀ j,w.cell? ⟨xb,j,none⟩=#[.int .i64 x.op,.int .i64 x.place,.int .i64 x.fn,.int .i64 x.x,.bool x.y.c,.int .i64 x.y.n,.bool x.z.c,.int .i64 x.z.n,.int .i64 x.bin,.int .i64 x.var,.int .i64 x.site,.int .i64 x.call,.slice none 0 0,.int .i64 x.to][j]? := hx.b.cell
 have hxf:=hx.b.frozen
 have hxl:=hx.b.lt
 have hxB:C.B≤xb:=Nat.le_of_not_lt fun hlt=>hx.u (.inl hlt)
 have hlx:C.lb≠xb:=h.l.ne_ hx.b (by decide)
 have hpx:C.pb≠xb:=h.p.ne_ hx.b (by decide)
 have H:=zH h
 have HT:=zH ht
 have HX:=zH hx
 have HXA:=zH hxa
 have HXB:=zH hxB
 clear h hx ht hxB hxa
 have o6:(t.op:Int)=11:=by omega
 clear ho
 go_enter Tryz.func298,Tryz.ntmps298
 go_wp2_with fail
 refine(zpg C w s V sp xb b t x hV H.out HT.out HX.out HXA.out).mono ?_
 rintro e w1 (⟨p,v,hr,rfl,rfl,hL1,av,hX1⟩ | ⟨f,g,hr,rfl,hfb,hle,hch⟩)
 rotate_left
 ·exact⟨rfl,.fault (HM.out.trans hr) hfb hle hch⟩
 have FIN:=zH (show zf0 C w V xb (zbv s t x) (.returned (.tuple #[])) w1 from .inl ⟨p,_,HM.out.trans hr,rfl,rfl,V,av,hL1,rfl,hX1⟩)
 clear hr hL1 hX1
 go_wp2_with fail
 go_end0
 exact FIN.out
theorem more_get (C:LC)(w:World)(s:Lo)(V:LV)(sp xb b:Nat)(t:Stm)(x:In)(hV:V.lm=some b)(h:LE C w s V)(ht:TS C sp t)(hx:XE C w V xb x (.slice none 0 0))(hxa:x.args=[])(h6:t.op≠6)(h7:t.op≠7)(h11:t.op≠11) :
  Calls Tryz.prog 298 #[.pointer (some ⟨C.lb,0,none⟩),.pointer (some ⟨sp,0,none⟩),.pointer (some ⟨xb,0,none⟩)] w (zf0 C w V xb (zbv s t x)):=by
 have HM:=zH (show zbv s t x=zab (argM s t.y) fun p=>.ok ({ x with y:=p.1 },p.2) by unfold zbv;rw[if_neg h6,if_neg h7,if_neg h11])
 obtain⟨hl,hp,hfl,hfp,hll,hlp,hne⟩:=h.cells
 obtain⟨_,_,_,_,_,_,hs0,hsl,_⟩:=h.tcells ht
 have hsx:sp≠xb:=fun e=>hx.u (.inl (e ▸ ht.lt))
 have hxc:∀ j,w.cell? ⟨xb,j,none⟩=#[.int .i64 x.op,.int .i64 x.place,.int .i64 x.fn,.int .i64 x.x,.bool x.y.c,.int .i64 x.y.n,.bool x.z.c,.int .i64 x.z.n,.int .i64 x.bin,.int .i64 x.var,.int .i64 x.site,.int .i64 x.call,.slice none 0 0,.int .i64 x.to][j]? := hx.b.cell
 have hxf:=hx.b.frozen
 have hxl:=hx.b.lt
 have hxB:C.B≤xb:=Nat.le_of_not_lt fun hlt=>hx.u (.inl hlt)
 have hlx:C.lb≠xb:=h.l.ne_ hx.b (by decide)
 have hpx:C.pb≠xb:=h.p.ne_ hx.b (by decide)
 have H:=zH h
 have HT:=zH ht
 have HX:=zH hx
 have HXA:=zH hxa
 have HXB:=zH hxB
 clear h hx ht hxB hxa
 have o6:((t.op:Int)==6)=false:=zai (by omega)
 have o7:((t.op:Int)==7)=false:=zai (by omega)
 have o11:((t.op:Int)==11)=false:=zai (by omega)
 clear h6 h7 h11
 go_enter Tryz.func298,Tryz.ntmps298
 go_wp2_with fail
 refine(zea C w s V t.y b hV H.out (zal HT.out.ok.y)).mono ?_
 rintro e w1 (⟨p,v,hr,rfl,rfl,hL1,hch⟩ | ⟨f,g,hr,rfl,hfb,hle,hch⟩)
 rotate_left
 ·exact⟨rfl,.fault (HM.out.trans (by rw[hr];rfl)) hfb hle hch⟩
 have hX1:=HX.out.arg H.out hV hch
 have hx1:∀ j,w1.cell? ⟨xb,j,none⟩=#[.int .i64 x.op,.int .i64 x.place,.int .i64 x.fn,.int .i64 x.x,.bool x.y.c,.int .i64 x.y.n,.bool x.z.c,.int .i64 x.z.n,.int .i64 x.bin,.int .i64 x.var,.int .i64 x.site,.int .i64 x.call,.slice none 0 0,.int .i64 x.to][j]? := hX1.b.cell
 have hf1:=hX1.b.frozen
 have FIN:=zH (show zf0 C w V xb (zbv s t x) (.returned (.tuple #[])) ((w1.setCell ⟨xb,4,none⟩ (.bool p.1.c)).setCell ⟨xb,5,none⟩ (.int .i64 p.1.n))from
  .inl ⟨_,_,HM.out.trans (by rw[hr];rfl),rfl,rfl,V,_,(hL1.far HX.out.u _).far HX.out.u _,rfl,(hX1.store (x':={ x with y:={ x.y with c:=p.1.c } }) 4 (.bool p.1.c) (by simp[zas])).store (x':={ x with y:=p.1 }) 5 (.int .i64 p.1.n) (by simp[zas])⟩)
 clear hr hL1 hX1 hch
 go_wp2_with fail
 go_end0
 exact FIN.out
end
section
open Go.RowKit Go.Maps
attribute [local go_sem] zaq arV
theorem more_new (C:LC)(w:World)(s:Lo)(V:LV)(sp xb b:Nat)(t:Stm)(x:In)(hV:V.lm=some b)(h:LE C w s V)(ht:TS C sp t)(hx:XE C w V xb x (.slice none 0 0))(hxa:x.args=[])(ho:t.op=6)(hf:s.news.length≠6) :
  Calls Tryz.prog 298 #[.pointer (some ⟨C.lb,0,none⟩),.pointer (some ⟨sp,0,none⟩),.pointer (some ⟨xb,0,none⟩)] w (zf0 C w V xb (zbv s t x)):=by
 have HM:=zH (show zbv s t x=.ok ({ x with site:=s.news.length },{ s with news:=s.news++[s.code.length] }) by unfold zbv;rw[if_pos ho,if_neg hf])
 have h6:=h.i.nl
 obtain⟨na,nc,hnv⟩:=zat h.nr
 obtain⟨hl,hp,hfl,hfp,hll,hlp,hne⟩:=h.cells
 obtain⟨_,_,_,_,_,_,hs0,hsl,_⟩:=h.tcells ht
 have hsx:sp≠xb:=fun e=>hx.u (.inl (e ▸ ht.lt))
 have hxc:∀ j,w.cell? ⟨xb,j,none⟩=#[.int .i64 x.op,.int .i64 x.place,.int .i64 x.fn,.int .i64 x.x,.bool x.y.c,.int .i64 x.y.n,.bool x.z.c,.int .i64 x.z.n,.int .i64 x.bin,.int .i64 x.var,.int .i64 x.site,.int .i64 x.call,.slice none 0 0,.int .i64 x.to][j]? := hx.b.cell
 have hxf:=hx.b.frozen
 have hxl:=hx.b.lt
 have hxB:C.B≤xb:=Nat.le_of_not_lt fun hlt=>hx.u (.inl hlt)
 have hlx:C.lb≠xb:=h.l.ne_ hx.b (by decide)
 have hpx:C.pb≠xb:=h.p.ne_ hx.b (by decide)
 have H:=zH h
 have HT:=zH ht
 have HX:=zH hx
 have HXA:=zH hxa
 have HXB:=zH hxB
 clear h hx ht hxB hxa
 rw[hnv]at hp
 have o6:(t.op:Int)=6:=by omega
 have f6:((s.news.length:Int)==6)=false:=zai (by omega)
 have l6:s.news.length<6:=by omega
 clear ho hf hnv h6
 go_enter Tryz.func298,Tryz.ntmps298
 go_upto_region 6 with fail
 refine zbi (fun W=>LE C W s V∧XE C W V xb { x with site:=s.news.length } (.slice none 0 0)∧Chg C.B [] [xb] w W) ⟨H.out.far HX.out.u _,HX.out.store (x':={ x with site:=s.news.length }) 10 (.int .i64 s.news.length) (by simp[zas]),(Chg.refl _ _ _ _).setX HXB.out (by simp) _⟩ ?_
 rintro W ⟨hL,hX,hC⟩
 clear hl hp hfl hfp hll hlp hs0 hsl hxc hxf hxl
 obtain⟨hl,hp,hfl,hfp,hll,hlp,_⟩:=hL.cells
 obtain⟨na,nc,hnv⟩:=zat hL.nr
 obtain⟨ca,cc,hcv⟩:=zat hL.cr
 rw[hnv,hcv]at hp
 have HL:=zH hL
 have HX1:=zH hX
 have HC:=zH hC
 have HNV:=zH hnv
 have HCV:=zH hcv
 have HR:=zH (show W.ownsRow C.B 3 1 (.slice na s.news.length nc) s.news.length (zb5 s.news) by have:=hL.nr;rw[hnv]at this;exact this)
 have HBW:=zH hL.bel.size
 clear hL hX hC hnv hcv
 refine zh0 23 (fun w'=>w'.cell? ⟨C.lb,0,none⟩=some (.pointer (some ⟨C.pb,0,none⟩))∧w'.cell? ⟨C.pb,4,none⟩=some (.slice ca s.code.length cc)∧w'.cell? ⟨C.pb,6,none⟩=some (.slice na s.news.length nc)) (by kernel_rfl) rfl rfl (by kernel_rfl) ?_
 simp only[List.take_succ_cons,List.take_zero]
 have hHeld:W.drew.cell? ⟨C.lb,0,none⟩=some (.pointer (some ⟨C.pb,0,none⟩))∧W.drew.cell? ⟨C.pb,4,none⟩=some (.slice ca s.code.length cc)∧W.drew.cell? ⟨C.pb,6,none⟩=some (.slice na s.news.length nc):=by simp[hl,hp]
 iterate 19(refine tk 0 rfl (by kernel_rfl) (fun _ _ _ h=>h) hHeld (fun w hSw=>by go_simp;try with_reducible rfl) (by simp only[pA,pB,pC,pD,pE,pF,pG,pH];exact rfl) ?_)
 refine rdy 19 (by kernel_rfl) rfl fun K hK=>?_
 clear hHeld
 go_simp
 refine hK.out _ _ (by simp[World.cell?_alloc_some,hl,hp]) (fun hHeld=>?_)
 clear hK K
 refine rdy 20 (by kernel_rfl) rfl fun K hK=>?_
 refine zc5 tyInt rfl _ _ rfl C.B _ s.news.length (zb5 s.news) W.heap.size _ _ ((za2 HR.out).alloc _) (Blk.newAt (by simp)) rfl rfl rfl (by simp[Value.oneCell']) (by omega) (Nat.le_trans HBW.out (by simp)) ?_
 intro g cap w2 hrow2 hg2 hat2
 have hp2:=(Blk.append ((HL.out.drew.alloc _).p) ((za2 HR.out).alloc _) hg2 (by decide))
 have hpp2:=hp2.cell
 have hfp2:=hp2.frozen
 rw[HNV.out,HCV.out]at hpp2
 have hl2:=(Blk.append ((HL.out.drew.alloc _).l) ((za2 HR.out).alloc _) hg2 (by decide))
 have hll2:=hl2.cell
 have HN:=zH (zq7 HC.out H.out.bel.size (zvr HL.out l6 hrow2 (by rw[HNV.out];exact hg2) (by rw[HNV.out];exact hat2)) (fun V' hw=>HX1.out.ints HL.out HR.out hg2 hw) HL.out.bel HR.out hg2)
 clear hp2 hl2 hrow2 hg2 hat2 hHeld
 refine hK.out _ _ (by simp[hll2,hpp2]) (fun hHeld=>?_)
 clear hK K
 iterate 2(refine tk 21 rfl (by kernel_rfl) (fun _ _ _ h=>h) hHeld (fun w hSw=>by go_simp;try with_reducible rfl) (by simp only[pA,pB,pC,pD,pE,pF,pG,pH];exact rfl) ?_)
 refine lst (by kernel_rfl) rfl fun K hK=>?_
 go_simp
 refine hK _ _ ?_
 clear hK K hHeld
 obtain⟨V',hL,hv,hX,hB,hz⟩:=HN.out
 have FIN:=zH (show zf0 C w V xb (zbv s t x) (.returned (.tuple #[])) _ from .inl ⟨_,_,HM.out,rfl,rfl,V',_,hL,hv,hX⟩)
 clear hL hv hX hB hz hl hp hfl hfp hll hlp hpp2 hfp2 hll2
 go_wp2_with fail
 go_end0
 exact FIN.out
end
section
open Go.RowKit Go.Maps
attribute [local go_sem] zaq arV
theorem more_go (C:LC)(w:World)(s:Lo)(V:LV)(sp xb b:Nat)(t:Stm)(x:In)(hV:V.lm=some b)(h:LE C w s V)(ht:TS C sp t)(hx:XE C w V xb x (.slice none 0 0))(hxa:x.args=[])(ho:t.op=7)(hf:s.gos.length≠5) :
  Calls Tryz.prog 298 #[.pointer (some ⟨C.lb,0,none⟩),.pointer (some ⟨sp,0,none⟩),.pointer (some ⟨xb,0,none⟩)] w (zf0 C w V xb (zbv s t x)):=by
 have HM:=zH (show zbv s t x=zc2 { s with gos:=s.gos++[s.code.length] } t { x with site:=s.gos.length } by unfold zbv;rw[if_neg (by omega),if_pos ho,if_neg hf])
 have h6:=h.i.gl
 obtain⟨na,nc,hnv⟩:=zat h.gr
 obtain⟨hl,hp,hfl,hfp,hll,hlp,hne⟩:=h.cells
 obtain⟨_,_,_,_,_,_,hs0,hsl,_⟩:=h.tcells ht
 have hsx:sp≠xb:=fun e=>hx.u (.inl (e ▸ ht.lt))
 have hxc:∀ j,w.cell? ⟨xb,j,none⟩=#[.int .i64 x.op,.int .i64 x.place,.int .i64 x.fn,.int .i64 x.x,.bool x.y.c,.int .i64 x.y.n,.bool x.z.c,.int .i64 x.z.n,.int .i64 x.bin,.int .i64 x.var,.int .i64 x.site,.int .i64 x.call,.slice none 0 0,.int .i64 x.to][j]? := hx.b.cell
 have hxf:=hx.b.frozen
 have hxl:=hx.b.lt
 have hxB:C.B≤xb:=Nat.le_of_not_lt fun hlt=>hx.u (.inl hlt)
 have hlx:C.lb≠xb:=h.l.ne_ hx.b (by decide)
 have hpx:C.pb≠xb:=h.p.ne_ hx.b (by decide)
 have H:=zH h
 have HT:=zH ht
 have HX:=zH hx
 have HXA:=zH hxa
 have HXB:=zH hxB
 clear h hx ht hxB hxa
 rw[hnv]at hp
 have o6:(t.op:Int)=7:=by omega
 have f6:((s.gos.length:Int)==5)=false:=zai (by omega)
 have l6:s.gos.length<5:=by omega
 clear ho hf hnv h6
 go_enter Tryz.func298,Tryz.ntmps298
 go_upto_region 11 with fail
 refine zbi (fun W=>LE C W s V∧XE C W V xb { x with site:=s.gos.length } (.slice none 0 0)∧Chg C.B [] [xb] w W) ⟨H.out.far HX.out.u _,HX.out.store (x':={ x with site:=s.gos.length }) 10 (.int .i64 s.gos.length) (by simp[zas]),(Chg.refl _ _ _ _).setX HXB.out (by simp) _⟩ ?_
 rintro W ⟨hL,hX,hC⟩
 clear hl hp hfl hfp hll hlp hs0 hsl hxc hxf hxl
 obtain⟨hl,hp,hfl,hfp,hll,hlp,_⟩:=hL.cells
 obtain⟨na,nc,hnv⟩:=zat hL.gr
 obtain⟨ca,cc,hcv⟩:=zat hL.cr
 rw[hnv,hcv]at hp
 have HL:=zH hL
 have HX1:=zH hX
 have HC:=zH hC
 have HNV:=zH hnv
 have HCV:=zH hcv
 have HR:=zH (show W.ownsRow C.B 3 1 (.slice na s.gos.length nc) s.gos.length (zb5 s.gos) by have:=hL.gr;rw[hnv]at this;exact this)
 have HBW:=zH hL.bel.size
 clear hL hX hC hnv hcv
 refine zh0 23 (fun w'=>w'.cell? ⟨C.lb,0,none⟩=some (.pointer (some ⟨C.pb,0,none⟩))∧w'.cell? ⟨C.pb,4,none⟩=some (.slice ca s.code.length cc)∧w'.cell? ⟨C.pb,7,none⟩=some (.slice na s.gos.length nc)) (by kernel_rfl) rfl rfl (by kernel_rfl) ?_
 simp only[List.take_succ_cons,List.take_zero]
 have hHeld:W.drew.cell? ⟨C.lb,0,none⟩=some (.pointer (some ⟨C.pb,0,none⟩))∧W.drew.cell? ⟨C.pb,4,none⟩=some (.slice ca s.code.length cc)∧W.drew.cell? ⟨C.pb,7,none⟩=some (.slice na s.gos.length nc):=by simp[hl,hp]
 iterate 19(refine tk 0 rfl (by kernel_rfl) (fun _ _ _ h=>h) hHeld (fun w hSw=>by go_simp;try with_reducible rfl) (by simp only[pA,pB,pC,pD,pE,pF,pG,pH];exact rfl) ?_)
 refine rdy 19 (by kernel_rfl) rfl fun K hK=>?_
 clear hHeld
 go_simp
 refine hK.out _ _ (by simp[World.cell?_alloc_some,hl,hp]) (fun hHeld=>?_)
 clear hK K
 refine rdy 20 (by kernel_rfl) rfl fun K hK=>?_
 refine zc5 tyInt rfl _ _ rfl C.B _ s.gos.length (zb5 s.gos) W.heap.size _ _ ((za2 HR.out).alloc _) (Blk.newAt (by simp)) rfl rfl rfl (by simp[Value.oneCell']) (by omega) (Nat.le_trans HBW.out (by simp)) ?_
 intro g cap w2 hrow2 hg2 hat2
 have hp2:=(Blk.append ((HL.out.drew.alloc _).p) ((za2 HR.out).alloc _) hg2 (by decide))
 have hpp2:=hp2.cell
 have hfp2:=hp2.frozen
 rw[HNV.out,HCV.out]at hpp2
 have hl2:=(Blk.append ((HL.out.drew.alloc _).l) ((za2 HR.out).alloc _) hg2 (by decide))
 have hll2:=hl2.cell
 have HN:=zH (zq7 HC.out H.out.bel.size (gos_step HL.out l6 hrow2 (by rw[HNV.out];exact hg2) (by rw[HNV.out];exact hat2)) (fun V' hw=>HX1.out.ints HL.out HR.out hg2 hw) HL.out.bel HR.out hg2)
 clear hp2 hl2 hrow2 hg2 hat2 hHeld
 refine hK.out _ _ (by simp[hll2,hpp2]) (fun hHeld=>?_)
 clear hK K
 iterate 2(refine tk 21 rfl (by kernel_rfl) (fun _ _ _ h=>h) hHeld (fun w hSw=>by go_simp;try with_reducible rfl) (by simp only[pA,pB,pC,pD,pE,pF,pG,pH];exact rfl) ?_)
 refine lst (by kernel_rfl) rfl fun K hK=>?_
 go_simp
 refine hK _ _ ?_
 clear hK K hHeld
 obtain⟨V',hL,hv,hX,hB,hz⟩:=HN.out
 have HV':=zH (hv.trans hV)
 have HVV:=zH hv
 have HL5:=zH hL
 have HX2:=zH hX
 have HB:=zH hB
 have HZ:=zH hz
 clear hL hv hX hB hz hl hp hfl hfp hll hlp hpp2 hfp2 hll2
 go_wp2_with fail
 refine(zpg C _ _ V' sp xb b t _ HV'.out HL5.out HT.out HX2.out HXA.out).mono ?_
 rintro e w3 (⟨p,v,hr,rfl,rfl,hL1,av,hX1⟩ | ⟨f,g',hr,rfl,hfb,hle,hch⟩)
 rotate_left
 ·exact⟨rfl,.fault (HM.out.trans hr) hfb (Nat.le_trans HZ.out hle) (HB.out.trans hch)⟩
 have FIN:=zH (show zf0 C w V xb (zbv s t x) (.returned (.tuple #[])) w3 from .inl ⟨p,_,HM.out.trans hr,rfl,rfl,V',av,hL1,HVV.out,hX1⟩)
 clear hr hL1 hX1
 go_wp2_with fail
 go_end0
 exact FIN.out
end
end Go.Proofs.YtkmcihhndgdhpaaGreat
