/- LowH LowI LowJ LowK LowL: parts of the walk. -/
import Derived.Test.YtkmcihhndgdhpaaGreatWC3
import Derived.BigRegion
set_option maxRecDepth 100000
set_option maxHeartbeats 4000000
set_option linter.unusedSimpArgs false
set_option linter.unusedVariables false
namespace Go.Proofs.YtkmcihhndgdhpaaGreat
section
open Go.RowKit Go.Maps
attribute [local go_sem] zaq arV insV zas
structure Gs (C:LC)(w0:World)(V:LV)(xb:Nat)(W:World)(s:Lo)(x:In):Prop where
 le:LE C W s V
 xe:XE C W V xb x (.slice none 0 0)
 bel:Below C.B w0 W
 sz:w0.heap.size≤W.heap.size
 b0:C.B≤w0.heap.size
section
variable {C:LC} {w0 W W1:World} {V:LV} {xb b:Nat} {s s1:Lo} {x x':In}
theorem Gs.arg (h:Gs C w0 V xb W s x)(hV:V.lm=some b)(hL:LE C W1 s1 V)(hc:Chg C.B [] [b] W W1):Gs C w0 V xb W1 s1 x :=
 ⟨hL,h.xe.arg h.le hV hc,h.bel.trans (hc.below h.le.bel.size),Nat.le_trans h.sz hc.size,h.b0⟩
theorem Gs.store (h:Gs C w0 V xb W s x)(i:Nat)(u:Value)(hc:(zas x (.slice none 0 0)).toArray.setIfInBounds i u=(zas x' (.slice none 0 0)).toArray)(ha:x'.args=x.args:=by rfl):Gs C w0 V xb (W.setCell ⟨xb,i,none⟩ u) s x' :=
 ⟨h.le.far h.xe.u _,h.xe.store i u hc ha,h.bel.setCell (Nat.le_of_not_lt fun hlt=>h.xe.u (.inl hlt)) _,by simpa [World.setCell] using h.sz,h.b0⟩
theorem Gs.drewN (h:Gs C w0 V xb W s x)(n:Nat):Gs C w0 V xb (W.drewN n) s x:=⟨h.le.drewN n,h.xe.drewN n,⟨h.bel.os,h.bel.tape,h.bel.output,h.bel.size,h.bel.block⟩,h.sz,h.b0⟩
theorem Gs.setOp (h:Gs C w0 V xb W s x)(n:Nat):Gs C w0 V xb (W.setCell ⟨xb,0,none⟩ (.int .i64 n)) s { x with op:=n }:=h.store 0 _ (by simp[zas])
theorem Gs.setX (h:Gs C w0 V xb W s x)(n:Nat):Gs C w0 V xb (W.setCell ⟨xb,3,none⟩ (.int .i64 (n:Int))) s { x with x:=n }:=h.store 3 _ (by simp[zas])
theorem Gs.setVar (h:Gs C w0 V xb W s x)(n:Nat):Gs C w0 V xb (W.setCell ⟨xb,9,none⟩ (.int .i64 n)) s { x with var:=n }:=h.store 9 _ (by simp[zas])
theorem Gs.setY (h:Gs C w0 V xb W s x)(a:Ar):Gs C w0 V xb ((W.setCell ⟨xb,4,none⟩ (.bool a.c)).setCell ⟨xb,5,none⟩ (.int .i64 a.n)) s { x with y:=a } :=
 (h.store (x':={ x with y:={ x.y with c:=a.c } }) 4 _ (by simp[zas])).store 5 _ (by simp[zas])
theorem Gs.setZ (h:Gs C w0 V xb W s x)(a:Ar):Gs C w0 V xb ((W.setCell ⟨xb,6,none⟩ (.bool a.c)).setCell ⟨xb,7,none⟩ (.int .i64 a.n)) s { x with z:=a } :=
 (h.store (x':={ x with z:={ x.z with c:=a.c } }) 6 _ (by simp[zas])).store 7 _ (by simp[zas])
theorem Gs.cells (h:Gs C w0 V xb W s x):∀ j,W.cell? ⟨xb,j,none⟩=#[.int .i64 x.op,.int .i64 x.place,.int .i64 x.fn,.int .i64 x.x,.bool x.y.c,.int .i64 x.y.n,.bool x.z.c,.int .i64 x.z.n,.int .i64 x.bin,.int .i64 x.var,.int .i64 x.site,.int .i64 x.call,.slice none 0 0,.int .i64 x.to][j]? := h.xe.b.cell
end
theorem Gs.start {C:LC}{w:World}{s:Lo}{V:LV}{x:In}(h:LE C w s V)(hx:x.args=[]){o:Obj}(ho:o=.cells (zas x (.slice none 0 0)).toArray 309):Gs C w V w.heap.size (w.alloc o) s x:=by
 subst ho
 exact⟨h.alloc _,⟨Blk.newAt rfl,by rw[hx];exact World.ownsRow_nil _ _ _ _,h.fresh (Nat.le_refl _)⟩,(Below.refl _ _).alloc h.bel.size _,by simp,h.bel.size⟩
def zcw (C:LC)(w:World)(V:LV)(M:Except Flt Lo):Ending→World→Prop :=
 zci C w M fun s' v w'=>v=.tuple #[]∧∃ V',LE C w' s' V'∧V'.lm=V.lm
theorem zk1 {m:NMap}{x:ByteArray}{k:Nat}(h:mget m x=some k):zcm m x=k:=by unfold zcm;rw[h]
theorem zim {m:NMap}{x:ByteArray}(h:mget m x=none):zcm m x=-1:=by unfold zcm;rw[h]
theorem zgl {s:Lo}{n:Nm}{p:Nat×Lo}(h:zbq s n=.ok p):p.2={ s with locs:=p.2.locs }:=by
 unfold zbq at h
 split at h
 ·cases h
 ·split at h
  ·injection h with h;subst h;rfl
  ·split at h
   ·cases h
   ·injection h with h;subst h;rfl
theorem zfk {s:Lo}{n:Nm}{p:Ar×Lo}(h:argM s n=.ok p):p.2={ s with locs:=p.2.locs }:=by
 unfold argM at h
 split at h
 ·injection h with h;subst h;rfl
 ·obtain⟨q,h1,h2⟩:=zac h
  injection h2 with h2;subst h2
  exact zgl h1
theorem zdq {s s':Lo}{l:NMap}{n:Nat}(h:s'={ s with locs:=l })(hn:s.code.length<n):s'.code.length<n:=by rw[h];exact hn
theorem set_op (C:LC)(w:World)(s:Lo)(V:LV)(sp b:Nat)(t:Stm)(x:In)(hV:V.lm=some b)(h:LE C w s V)(ht:TS C sp t)(hxa:x.args=[])(hcl:s.code.length<100000)(v:Nat)(hv:mget s.vars t.x.text=some v)(hb:t.bin≠0) :
  Calls Tryz.prog 294 #[.pointer (some ⟨C.lb,0,none⟩),.pointer (some ⟨sp,0,none⟩),insV x (.slice none 0 0)] w (zcw C w V (setM s t x)):=by
 have MD:=zH (show setM s t x=.error ⟨9,t.x.at_⟩ by unfold setM;rw[hv];simp only;rw[if_neg hb])
 have hb2:((t.bin:Int) != 0)=true:=bne_iff_ne.2 (by omega)
 have ke:=zk1 hv
 clear hv hb hcl
 obtain⟨M0,hM0⟩:∃ M,M=setM s t x:=⟨_,rfl⟩
 have HM0:=zH hM0
 rw[← hM0]
 have HT:=zH ht
 have H:=zH h
 have G0:=zH (Gs.start h hxa rfl)
 obtain⟨hl,hp,hfl,hfp,hll,hlp,_⟩:=h.cells
 obtain⟨_,_,_,_,_,_,hs,hsl,_⟩:=h.tcells ht
 clear hM0 h ht
 go_enter Tryz.func294,Tryz.ntmps294
 go_wp2_with fail
 go_quiet ((go_at_call 114;first | exact zch (zbo _ _ s.vars _ ((H.out.alloc _).drewN _).vm (zal HT.out.ok.x)) | exact zc8 (zbo _ _ s.vars _ ((H.out.alloc _).drewN _).vm (zal HT.out.ok.x))))
 go_wp2_with fail
 refine zag (fun W=>Gs C w V w.heap.size W s { x with op:=3,var:=v }) (((G0.out.drewN _).setOp 3).setVar v) ?_
 intro w1 hG
 have G1:=zH hG
 clear hG
 obtain⟨hl1,hp1,hfl1,hfp1,hll1,hlp1,_⟩:=G1.out.le.cells
 obtain⟨_,_,_,_,_,_,hs1,hsl1,_⟩:=G1.out.le.tcells HT.out
 have hx1:=G1.out.cells
 have hxf1:=G1.out.xe.b.frozen
 have hxl1:=G1.out.xe.b.lt
 refine(zdj _ _ _).mono ?_
 rintro e w9 ⟨rfl,rfl⟩
 exact⟨rfl,.fault (HM0.out.trans MD.out) (za1.new rfl) G1.out.sz (G1.out.bel.alloc (Nat.le_trans G1.out.b0 G1.out.sz) _)⟩
theorem zvb (C:LC)(w:World)(s:Lo)(V:LV)(sp b:Nat)(t:Stm)(x:In)(hV:V.lm=some b)(h:LE C w s V)(ht:TS C sp t)(hxa:x.args=[])(hcl:s.code.length<100000)(v:Nat)(hv:mget s.vars t.x.text=some v)(hb:t.bin=0) :
  Calls Tryz.prog 294 #[.pointer (some ⟨C.lb,0,none⟩),.pointer (some ⟨sp,0,none⟩),insV x (.slice none 0 0)] w (zcw C w V (setM s t x)):=by
 have MD0:=zH (show setM s t x=zab (argM s t.y) fun p=>.ok (p.2.emit { x with op:=3,var:=v,y:=p.1 }) by unfold setM;rw[hv];simp only;rw[if_pos hb])
 have hb2:((t.bin:Int) != 0)=false:=bne_eq_false_iff_eq.2 (by omega)
 have ke:=zk1 hv
 have HCL:=zH hcl
 clear hv hb hcl
 obtain⟨M0,hM0⟩:∃ M,M=setM s t x:=⟨_,rfl⟩
 have HM0:=zH hM0
 rw[← hM0]
 have HT:=zH ht
 have H:=zH h
 have G0:=zH (Gs.start h hxa rfl)
 obtain⟨hl,hp,hfl,hfp,hll,hlp,_⟩:=h.cells
 obtain⟨_,_,_,_,_,_,hs,hsl,_⟩:=h.tcells ht
 clear hM0 h ht
 go_enter Tryz.func294,Tryz.ntmps294
 go_wp2_with fail
 go_quiet ((go_at_call 114;first | exact zch (zbo _ _ s.vars _ ((H.out.alloc _).drewN _).vm (zal HT.out.ok.x)) | exact zc8 (zbo _ _ s.vars _ ((H.out.alloc _).drewN _).vm (zal HT.out.ok.x))))
 go_wp2_with fail
 refine zag (fun W=>Gs C w V w.heap.size W s { x with op:=3,var:=v }) (((G0.out.drewN _).setOp 3).setVar v) ?_
 intro w1 hG
 have G1:=zH hG
 clear hG
 obtain⟨hl1,hp1,hfl1,hfp1,hll1,hlp1,_⟩:=G1.out.le.cells
 obtain⟨_,_,_,_,_,_,hs1,hsl1,_⟩:=G1.out.le.tcells HT.out
 have hx1:=G1.out.cells
 have hxf1:=G1.out.xe.b.frozen
 have hxl1:=G1.out.xe.b.lt
 have MD0:=zH (HM0.out.trans MD0.out)
 refine(zea C _ _ V t.y b hV G1.out.le (zal HT.out.ok.y)).mono ?_
 rintro e w2 (⟨p2,v,hr,rfl,rfl,hL,hch⟩ | ⟨f,g,hr,rfl,hfb,hle,hch⟩)
 rotate_left
 ·exact⟨rfl,.fault (MD0.out.trans (by rw[hr];rfl)) hfb (Nat.le_trans G1.out.sz hle) (G1.out.bel.trans hch)⟩
 have MD1:=zH (MD0.out.trans (by rw[hr,zae]))
 have G2:=zH (G1.out.arg hV hL hch)
 have Q2:=zH (zfk hr)
 clear hr hL hch
 obtain⟨hl2,hp2,hfl2,hfp2,hll2,hlp2,_⟩:=G2.out.le.cells
 obtain⟨_,_,_,_,_,_,hs2,hsl2,_⟩:=G2.out.le.tcells HT.out
 have hx2:=G2.out.cells
 have hxf2:=G2.out.xe.b.frozen
 have hxl2:=G2.out.xe.b.lt
 go_wp2_with fail
 have MD2:=zH (HM0.out.symm.trans MD1.out)
 refine zag (fun W=>Gs C w V w.heap.size W p2.2 { x with op:=3,var:=v,y:=p2.1 }) (G2.out.setY p2.1) ?_
 intro wz hGz
 have HGZ:=zH hGz
 clear hGz
 refine(zde C wz _ V { x with op:=3,var:=v,y:=p2.1 } (.slice none 0 0) HGZ.out.le (zdq Q2.out HCL.out) HGZ.out.xe.a).mono ?_
 rintro e w9 ⟨rfl,V',hL9,hv9⟩
 have FIN:=zH (show zcw C w V M0 (.returned (.tuple #[])) w9 from .inl ⟨_,_,HM0.out.trans MD2.out,rfl,rfl,V',hL9,hv9⟩)
 clear hL9 hv9
 go_wp2_with fail
 first | go_end0 | refine bodyPost_ret (results_none rfl _ _ _) rfl ?_
 exact FIN.out
def zfv (s:Lo)(t:Stm)(x:In)(w:Option Nat):Except Flt Lo :=
 match w with
 | some v=>.ok (s.emit { x with op:=2,var:=v })
 | none=>zab (argM s t.y) fun q=>if t.bin=0 then .ok (q.2.emit { x with y:=q.1 })else zab (argM q.2 t.z) fun r=>.ok (r.2.emit { x with y:=q.1,z:=r.1 })
def zd1 (s:Lo)(t:Stm):Option Nat:=if t.y.num=false∧t.bin=0 then mget s.vars t.y.text else none
theorem zis {s:Lo}{t:Stm}{x:In}(hv:mget s.vars t.x.text=none):setM s t x=zab (zbq s t.x) fun p=>zfv p.2 t { x with x:=p.1 } (zd1 p.2 t):=by
 unfold setM
 rw[hv]
 simp only
 congr 1
theorem set_load (C:LC)(w:World)(s:Lo)(V:LV)(sp b:Nat)(t:Stm)(x:In)(hV:V.lm=some b)(h:LE C w s V)(ht:TS C sp t)(hxa:x.args=[])(hcl:s.code.length<100000)(hv:mget s.vars t.x.text=none)(hn:t.y.num=false)(hb:t.bin=0)(v:Nat)(hw:mget s.vars t.y.text=some v) :
  Calls Tryz.prog 294 #[.pointer (some ⟨C.lb,0,none⟩),.pointer (some ⟨sp,0,none⟩),insV x (.slice none 0 0)] w (zcw C w V (setM s t x)):=by
 have MDa:=zH (show setM s t x=zab (zbq s t.x) fun p=>zfv p.2 t { x with x:=p.1 } (zd1 p.2 t)from zis hv)
 have hb2:((t.bin:Int)==0)=true:=by rw[beq_iff_eq];omega
 have ke:=zim hv
 have kw:=zk1 hw
 have HLO:=zH (show ∀ s',s'.vars=s.vars→zd1 s' t=some v from fun s' h=>by unfold zd1;rw[if_pos ⟨hn,hb⟩,h,hw])
 have HCL:=zH hcl
 clear hv hb hw hcl
 obtain⟨M0,hM0⟩:∃ M,M=setM s t x:=⟨_,rfl⟩
 have HM0:=zH hM0
 rw[← hM0]
 have HT:=zH ht
 have H:=zH h
 have G0:=zH (Gs.start h hxa rfl)
 obtain⟨hl,hp,hfl,hfp,hll,hlp,_⟩:=h.cells
 obtain⟨_,_,_,_,_,_,hs,hsl,_⟩:=h.tcells ht
 clear hM0 h ht
 go_enter Tryz.func294,Tryz.ntmps294
 go_wp2_with fail
 go_quiet ((go_at_call 114;first | exact zch (zbo _ _ s.vars _ ((H.out.alloc _).drewN _).vm (zal HT.out.ok.x)) | exact zc8 (zbo _ _ s.vars _ ((H.out.alloc _).drewN _).vm (zal HT.out.ok.x))))
 go_wp2_with fail
 refine zag (fun W=>Gs C w V w.heap.size W s x) (G0.out.drewN _) ?_
 intro w1 hG
 have G1:=zH hG
 clear hG
 obtain⟨hl1,hp1,hfl1,hfp1,hll1,hlp1,_⟩:=G1.out.le.cells
 obtain⟨_,_,_,_,_,_,hs1,hsl1,_⟩:=G1.out.le.tcells HT.out
 have hx1:=G1.out.cells
 have hxf1:=G1.out.xe.b.frozen
 have hxl1:=G1.out.xe.b.lt
 clear hl hp hfl hfp hll hlp hs hsl
 have MD0:=zH (HM0.out.trans MDa.out)
 refine(zhr C _ _ V t.x b hV G1.out.le (zal HT.out.ok.x)).mono ?_
 rintro e w2 (⟨p2,v,hr,rfl,rfl,hL,hch⟩ | ⟨f,g,hr,rfl,hfb,hle,hch⟩)
 rotate_left
 ·exact⟨rfl,.fault (MD0.out.trans (by rw[hr];rfl)) hfb (Nat.le_trans G1.out.sz hle) (G1.out.bel.trans hch)⟩
 have MD1:=zH (MD0.out.trans (by rw[hr,zae]))
 have G2:=zH (G1.out.arg hV hL hch)
 have Q2:=zH (zgl hr)
 clear hr hL hch
 obtain⟨hl2,hp2,hfl2,hfp2,hll2,hlp2,_⟩:=G2.out.le.cells
 obtain⟨_,_,_,_,_,_,hs2,hsl2,_⟩:=G2.out.le.tcells HT.out
 have hx2:=G2.out.cells
 have hxf2:=G2.out.xe.b.frozen
 have hxl2:=G2.out.xe.b.lt
 clear hl1 hp1 hfl1 hfp1 hll1 hlp1 hs1 hsl1 hx1 hxf1 hxl1
 go_wp2_with fail
 refine zbi (fun W=>Gs C w V w.heap.size W p2.2 { x with x:=p2.1 }) (G2.out.setX p2.1) ?_
 intro w3 hG
 have G3:=zH hG
 clear hG
 obtain⟨hl3,hp3,hfl3,hfp3,hll3,hlp3,_⟩:=G3.out.le.cells
 obtain⟨_,_,_,_,_,_,hs3,hsl3,_⟩:=G3.out.le.tcells HT.out
 have hx3:=G3.out.cells
 have hxf3:=G3.out.xe.b.frozen
 have hxl3:=G3.out.xe.b.lt
 clear hl2 hp2 hfl2 hfp2 hll2 hlp2 hs2 hsl2 hx2 hxf2 hxl2
 have HVS:=zH (show p2.2.vars=s.vars by rw[Q2.out])
 have HVM:=zH (show ∀ n,NM (w3.drewN n) C.vb s.vars from fun n=>HVS.out ▸ (G3.out.drewN n).le.vm)
 go_quiet ((go_at_call 114;first | exact zch (zbo _ _ s.vars _ (HVM.out _) (zal HT.out.ok.y)) | exact zc8 (zbo _ _ s.vars _ (HVM.out _) (zal HT.out.ok.y))))
 go_wp2_with fail
 have MD2:=zH (HM0.out.symm.trans (MD1.out.trans (by rw[HLO.out _ HVS.out])))
 refine zag (fun W=>Gs C w V w.heap.size W p2.2 { x with x:=p2.1,op:=2,var:=v }) (((G3.out.drewN _).setOp 2).setVar v) ?_
 intro wz hGz
 have HGZ:=zH hGz
 clear hGz
 refine(zde C wz _ V { x with x:=p2.1,op:=2,var:=v } (.slice none 0 0) HGZ.out.le (zdq Q2.out HCL.out) HGZ.out.xe.a).mono ?_
 rintro e w9 ⟨rfl,V',hL9,hv9⟩
 have FIN:=zH (show zcw C w V M0 (.returned (.tuple #[])) w9 from .inl ⟨_,_,HM0.out.trans MD2.out,rfl,rfl,V',hL9,hv9⟩)
 clear hL9 hv9
 go_wp2_with fail
 first | go_end0 | refine bodyPost_ret (results_none rfl _ _ _) rfl ?_
 exact FIN.out
theorem set_num (C:LC)(w:World)(s:Lo)(V:LV)(sp b:Nat)(t:Stm)(x:In)(hV:V.lm=some b)(h:LE C w s V)(ht:TS C sp t)(hxa:x.args=[])(hcl:s.code.length<100000)(hv:mget s.vars t.x.text=none)(hn:t.y.num=true)(hb:t.bin=0) :
  Calls Tryz.prog 294 #[.pointer (some ⟨C.lb,0,none⟩),.pointer (some ⟨sp,0,none⟩),insV x (.slice none 0 0)] w (zcw C w V (setM s t x)):=by
 have hb3:((t.bin:Int) != 0)=false:=bne_eq_false_iff_eq.2 (by omega)
 have MDa:=zH (show setM s t x=zab (zbq s t.x) fun p=>zfv p.2 t { x with x:=p.1 } (zd1 p.2 t)from zis hv)
 have ke:=zim hv
 skip
 have HLO:=zH (show ∀ s',s'.vars=s.vars→zd1 s' t=none from fun s' h=>by unfold zd1;exact if_neg (fun h=>Bool.noConfusion (hn.symm.trans h.1)))
 have HCL:=zH hcl
 have hb2:((t.bin:Int)==0)=true:=by rw[beq_iff_eq,hb,Int.natCast_zero]
 have HB:=zH hb
 clear hv hb hcl
 obtain⟨M0,hM0⟩:∃ M,M=setM s t x:=⟨_,rfl⟩
 have HM0:=zH hM0
 rw[← hM0]
 have HT:=zH ht
 have H:=zH h
 have G0:=zH (Gs.start h hxa rfl)
 obtain⟨hl,hp,hfl,hfp,hll,hlp,_⟩:=h.cells
 obtain⟨_,_,_,_,_,_,hs,hsl,_⟩:=h.tcells ht
 clear hM0 h ht
 go_enter Tryz.func294,Tryz.ntmps294
 go_wp2_with fail
 go_quiet ((go_at_call 114;first | exact zch (zbo _ _ s.vars _ ((H.out.alloc _).drewN _).vm (zal HT.out.ok.x)) | exact zc8 (zbo _ _ s.vars _ ((H.out.alloc _).drewN _).vm (zal HT.out.ok.x))))
 go_wp2_with fail
 refine zag (fun W=>Gs C w V w.heap.size W s x) (G0.out.drewN _) ?_
 intro w1 hG
 have G1:=zH hG
 clear hG
 obtain⟨hl1,hp1,hfl1,hfp1,hll1,hlp1,_⟩:=G1.out.le.cells
 obtain⟨_,_,_,_,_,_,hs1,hsl1,_⟩:=G1.out.le.tcells HT.out
 have hx1:=G1.out.cells
 have hxf1:=G1.out.xe.b.frozen
 have hxl1:=G1.out.xe.b.lt
 clear hl hp hfl hfp hll hlp hs hsl
 have MD0:=zH (HM0.out.trans MDa.out)
 refine(zhr C _ _ V t.x b hV G1.out.le (zal HT.out.ok.x)).mono ?_
 rintro e w2 (⟨p2,v,hr,rfl,rfl,hL,hch⟩ | ⟨f,g,hr,rfl,hfb,hle,hch⟩)
 rotate_left
 ·exact⟨rfl,.fault (MD0.out.trans (by rw[hr];rfl)) hfb (Nat.le_trans G1.out.sz hle) (G1.out.bel.trans hch)⟩
 have MD1:=zH (MD0.out.trans (by rw[hr,zae]))
 have G2:=zH (G1.out.arg hV hL hch)
 have Q2:=zH (zgl hr)
 clear hr hL hch
 obtain⟨hl2,hp2,hfl2,hfp2,hll2,hlp2,_⟩:=G2.out.le.cells
 obtain⟨_,_,_,_,_,_,hs2,hsl2,_⟩:=G2.out.le.tcells HT.out
 have hx2:=G2.out.cells
 have hxf2:=G2.out.xe.b.frozen
 have hxl2:=G2.out.xe.b.lt
 clear hl1 hp1 hfl1 hfp1 hll1 hlp1 hs1 hsl1 hx1 hxf1 hxl1
 go_wp2_with fail
 refine zbi (fun W=>Gs C w V w.heap.size W p2.2 { x with x:=p2.1 }) (G2.out.setX p2.1) ?_
 intro w3 hG
 have G3:=zH hG
 clear hG
 obtain⟨hl3,hp3,hfl3,hfp3,hll3,hlp3,_⟩:=G3.out.le.cells
 obtain⟨_,_,_,_,_,_,hs3,hsl3,_⟩:=G3.out.le.tcells HT.out
 have hx3:=G3.out.cells
 have hxf3:=G3.out.xe.b.frozen
 have hxl3:=G3.out.xe.b.lt
 clear hl2 hp2 hfl2 hfp2 hll2 hlp2 hs2 hsl2 hx2 hxf2 hxl2
 have HVS:=zH (show p2.2.vars=s.vars by rw[Q2.out])
 have HVM:=zH (show ∀ n,NM (w3.drewN n) C.vb s.vars from fun n=>HVS.out ▸ (G3.out.drewN n).le.vm)
 go_quiet ((go_at_call 114;first | exact zch (zbo _ _ s.vars _ (HVM.out _) (zal HT.out.ok.y)) | exact zc8 (zbo _ _ s.vars _ (HVM.out _) (zal HT.out.ok.y))))
 go_wp2_with fail
 refine zag (fun W=>Gs C w V w.heap.size W p2.2 { x with x:=p2.1 }) (G3.out.drewN _) ?_
 intro w4 hG
 have G4:=zH hG
 clear hG
 obtain⟨hl4,hp4,hfl4,hfp4,hll4,hlp4,_⟩:=G4.out.le.cells
 obtain⟨_,_,_,_,_,_,hs4,hsl4,_⟩:=G4.out.le.tcells HT.out
 have hx4:=G4.out.cells
 have hxf4:=G4.out.xe.b.frozen
 have hxl4:=G4.out.xe.b.lt
 clear hl3 hp3 hfl3 hfp3 hll3 hlp3 hs3 hsl3 hx3 hxf3 hxl3
 have MD2:=zH (MD1.out.trans (by rw[HLO.out _ HVS.out,zfv]))
 rw[show(Value.agg #[.string t.y.text,.int .i64 t.y.at_,.bool true,.int .i64 t.y.n])=zaq t.y by unfold zaq;rw[hn]]
 refine(zea C _ _ V t.y b hV G4.out.le (zal HT.out.ok.y)).mono ?_
 rintro e w5 (⟨p5,v,hr,rfl,rfl,hL,hch⟩ | ⟨f,g,hr,rfl,hfb,hle,hch⟩)
 rotate_left
 ·exact⟨rfl,.fault (MD2.out.trans (by rw[hr];rfl)) hfb (Nat.le_trans G4.out.sz hle) (G4.out.bel.trans hch)⟩
 have MD3:=zH (MD2.out.trans (by rw[hr,zae]))
 have G5:=zH (G4.out.arg hV hL hch)
 have Q5:=zH (zfk hr)
 clear hr hL hch
 obtain⟨hl5,hp5,hfl5,hfp5,hll5,hlp5,_⟩:=G5.out.le.cells
 obtain⟨_,_,_,_,_,_,hs5,hsl5,_⟩:=G5.out.le.tcells HT.out
 have hx5:=G5.out.cells
 have hxf5:=G5.out.xe.b.frozen
 have hxl5:=G5.out.xe.b.lt
 clear hl4 hp4 hfl4 hfp4 hll4 hlp4 hs4 hsl4 hx4 hxf4 hxl4
 go_wp2_with fail
 have MD4:=zH (HM0.out.symm.trans (MD3.out.trans (if_pos HB.out)))
 refine zag (fun W=>Gs C w V w.heap.size W p5.2 { x with x:=p2.1,y:=p5.1 }) (G5.out.setY p5.1) ?_
 intro wz hGz
 have HGZ:=zH hGz
 clear hGz
 refine(zde C wz _ V { x with x:=p2.1,y:=p5.1 } (.slice none 0 0) HGZ.out.le (zdq Q5.out (zdq Q2.out HCL.out)) HGZ.out.xe.a).mono ?_
 rintro e w9 ⟨rfl,V',hL9,hv9⟩
 have FIN:=zH (show zcw C w V M0 (.returned (.tuple #[])) w9 from .inl ⟨_,_,HM0.out.trans MD4.out,rfl,rfl,V',hL9,hv9⟩)
 clear hL9 hv9
 go_wp2_with fail
 first | go_end0 | refine bodyPost_ret (results_none rfl _ _ _) rfl ?_
 exact FIN.out
theorem set_var (C:LC)(w:World)(s:Lo)(V:LV)(sp b:Nat)(t:Stm)(x:In)(hV:V.lm=some b)(h:LE C w s V)(ht:TS C sp t)(hxa:x.args=[])(hcl:s.code.length<100000)(hv:mget s.vars t.x.text=none)(hn:t.y.num=false)(hw:mget s.vars t.y.text=none)(hb:t.bin=0) :
  Calls Tryz.prog 294 #[.pointer (some ⟨C.lb,0,none⟩),.pointer (some ⟨sp,0,none⟩),insV x (.slice none 0 0)] w (zcw C w V (setM s t x)):=by
 have hb3:((t.bin:Int) != 0)=false:=bne_eq_false_iff_eq.2 (by omega)
 have MDa:=zH (show setM s t x=zab (zbq s t.x) fun p=>zfv p.2 t { x with x:=p.1 } (zd1 p.2 t)from zis hv)
 have ke:=zim hv
 have kw:=zim hw
 have HLO:=zH (show ∀ s',s'.vars=s.vars→zd1 s' t=none from fun s' h=>by unfold zd1;rw[h,hw,ite_self])
 have HCL:=zH hcl
 have hb2:((t.bin:Int)==0)=true:=by rw[beq_iff_eq,hb,Int.natCast_zero]
 have HB:=zH hb
 clear hv hb hcl
 obtain⟨M0,hM0⟩:∃ M,M=setM s t x:=⟨_,rfl⟩
 have HM0:=zH hM0
 rw[← hM0]
 have HT:=zH ht
 have H:=zH h
 have G0:=zH (Gs.start h hxa rfl)
 obtain⟨hl,hp,hfl,hfp,hll,hlp,_⟩:=h.cells
 obtain⟨_,_,_,_,_,_,hs,hsl,_⟩:=h.tcells ht
 clear hM0 h ht
 go_enter Tryz.func294,Tryz.ntmps294
 go_wp2_with fail
 go_quiet ((go_at_call 114;first | exact zch (zbo _ _ s.vars _ ((H.out.alloc _).drewN _).vm (zal HT.out.ok.x)) | exact zc8 (zbo _ _ s.vars _ ((H.out.alloc _).drewN _).vm (zal HT.out.ok.x))))
 go_wp2_with fail
 refine zag (fun W=>Gs C w V w.heap.size W s x) (G0.out.drewN _) ?_
 intro w1 hG
 have G1:=zH hG
 clear hG
 obtain⟨hl1,hp1,hfl1,hfp1,hll1,hlp1,_⟩:=G1.out.le.cells
 obtain⟨_,_,_,_,_,_,hs1,hsl1,_⟩:=G1.out.le.tcells HT.out
 have hx1:=G1.out.cells
 have hxf1:=G1.out.xe.b.frozen
 have hxl1:=G1.out.xe.b.lt
 clear hl hp hfl hfp hll hlp hs hsl
 have MD0:=zH (HM0.out.trans MDa.out)
 refine(zhr C _ _ V t.x b hV G1.out.le (zal HT.out.ok.x)).mono ?_
 rintro e w2 (⟨p2,v,hr,rfl,rfl,hL,hch⟩ | ⟨f,g,hr,rfl,hfb,hle,hch⟩)
 rotate_left
 ·exact⟨rfl,.fault (MD0.out.trans (by rw[hr];rfl)) hfb (Nat.le_trans G1.out.sz hle) (G1.out.bel.trans hch)⟩
 have MD1:=zH (MD0.out.trans (by rw[hr,zae]))
 have G2:=zH (G1.out.arg hV hL hch)
 have Q2:=zH (zgl hr)
 clear hr hL hch
 obtain⟨hl2,hp2,hfl2,hfp2,hll2,hlp2,_⟩:=G2.out.le.cells
 obtain⟨_,_,_,_,_,_,hs2,hsl2,_⟩:=G2.out.le.tcells HT.out
 have hx2:=G2.out.cells
 have hxf2:=G2.out.xe.b.frozen
 have hxl2:=G2.out.xe.b.lt
 clear hl1 hp1 hfl1 hfp1 hll1 hlp1 hs1 hsl1 hx1 hxf1 hxl1
 go_wp2_with fail
 refine zbi (fun W=>Gs C w V w.heap.size W p2.2 { x with x:=p2.1 }) (G2.out.setX p2.1) ?_
 intro w3 hG
 have G3:=zH hG
 clear hG
 obtain⟨hl3,hp3,hfl3,hfp3,hll3,hlp3,_⟩:=G3.out.le.cells
 obtain⟨_,_,_,_,_,_,hs3,hsl3,_⟩:=G3.out.le.tcells HT.out
 have hx3:=G3.out.cells
 have hxf3:=G3.out.xe.b.frozen
 have hxl3:=G3.out.xe.b.lt
 clear hl2 hp2 hfl2 hfp2 hll2 hlp2 hs2 hsl2 hx2 hxf2 hxl2
 have HVS:=zH (show p2.2.vars=s.vars by rw[Q2.out])
 have HVM:=zH (show ∀ n,NM (w3.drewN n) C.vb s.vars from fun n=>HVS.out ▸ (G3.out.drewN n).le.vm)
 go_quiet ((go_at_call 114;first | exact zch (zbo _ _ s.vars _ (HVM.out _) (zal HT.out.ok.y)) | exact zc8 (zbo _ _ s.vars _ (HVM.out _) (zal HT.out.ok.y))))
 go_wp2_with fail
 refine zag (fun W=>Gs C w V w.heap.size W p2.2 { x with x:=p2.1 }) (G3.out.drewN _) ?_
 intro w4 hG
 have G4:=zH hG
 clear hG
 obtain⟨hl4,hp4,hfl4,hfp4,hll4,hlp4,_⟩:=G4.out.le.cells
 obtain⟨_,_,_,_,_,_,hs4,hsl4,_⟩:=G4.out.le.tcells HT.out
 have hx4:=G4.out.cells
 have hxf4:=G4.out.xe.b.frozen
 have hxl4:=G4.out.xe.b.lt
 clear hl3 hp3 hfl3 hfp3 hll3 hlp3 hs3 hsl3 hx3 hxf3 hxl3
 have MD2:=zH (MD1.out.trans (by rw[HLO.out _ HVS.out,zfv]))
 rw[show(Value.agg #[.string t.y.text,.int .i64 t.y.at_,.bool false,.int .i64 t.y.n])=zaq t.y by unfold zaq;rw[hn]]
 refine(zea C _ _ V t.y b hV G4.out.le (zal HT.out.ok.y)).mono ?_
 rintro e w5 (⟨p5,v,hr,rfl,rfl,hL,hch⟩ | ⟨f,g,hr,rfl,hfb,hle,hch⟩)
 rotate_left
 ·exact⟨rfl,.fault (MD2.out.trans (by rw[hr];rfl)) hfb (Nat.le_trans G4.out.sz hle) (G4.out.bel.trans hch)⟩
 have MD3:=zH (MD2.out.trans (by rw[hr,zae]))
 have G5:=zH (G4.out.arg hV hL hch)
 have Q5:=zH (zfk hr)
 clear hr hL hch
 obtain⟨hl5,hp5,hfl5,hfp5,hll5,hlp5,_⟩:=G5.out.le.cells
 obtain⟨_,_,_,_,_,_,hs5,hsl5,_⟩:=G5.out.le.tcells HT.out
 have hx5:=G5.out.cells
 have hxf5:=G5.out.xe.b.frozen
 have hxl5:=G5.out.xe.b.lt
 clear hl4 hp4 hfl4 hfp4 hll4 hlp4 hs4 hsl4 hx4 hxf4 hxl4
 go_wp2_with fail
 have MD4:=zH (HM0.out.symm.trans (MD3.out.trans (if_pos HB.out)))
 refine zag (fun W=>Gs C w V w.heap.size W p5.2 { x with x:=p2.1,y:=p5.1 }) (G5.out.setY p5.1) ?_
 intro wz hGz
 have HGZ:=zH hGz
 clear hGz
 refine(zde C wz _ V { x with x:=p2.1,y:=p5.1 } (.slice none 0 0) HGZ.out.le (zdq Q5.out (zdq Q2.out HCL.out)) HGZ.out.xe.a).mono ?_
 rintro e w9 ⟨rfl,V',hL9,hv9⟩
 have FIN:=zH (show zcw C w V M0 (.returned (.tuple #[])) w9 from .inl ⟨_,_,HM0.out.trans MD4.out,rfl,rfl,V',hL9,hv9⟩)
 clear hL9 hv9
 go_wp2_with fail
 first | go_end0 | refine bodyPost_ret (results_none rfl _ _ _) rfl ?_
 exact FIN.out
theorem set_bnum (C:LC)(w:World)(s:Lo)(V:LV)(sp b:Nat)(t:Stm)(x:In)(hV:V.lm=some b)(h:LE C w s V)(ht:TS C sp t)(hxa:x.args=[])(hcl:s.code.length<100000)(hv:mget s.vars t.x.text=none)(hn:t.y.num=true)(hb:t.bin≠0) :
  Calls Tryz.prog 294 #[.pointer (some ⟨C.lb,0,none⟩),.pointer (some ⟨sp,0,none⟩),insV x (.slice none 0 0)] w (zcw C w V (setM s t x)):=by
 have hb3:((t.bin:Int) != 0)=true:=bne_iff_ne.2 (by omega)
 have MDa:=zH (show setM s t x=zab (zbq s t.x) fun p=>zfv p.2 t { x with x:=p.1 } (zd1 p.2 t)from zis hv)
 have ke:=zim hv
 skip
 have HLO:=zH (show ∀ s',s'.vars=s.vars→zd1 s' t=none from fun s' h=>by unfold zd1;exact if_neg (fun h=>Bool.noConfusion (hn.symm.trans h.1)))
 have HCL:=zH hcl
 have hb2:((t.bin:Int)==0)=false:=zai (by omega)
 have HB:=zH hb
 clear hv hb hcl
 obtain⟨M0,hM0⟩:∃ M,M=setM s t x:=⟨_,rfl⟩
 have HM0:=zH hM0
 rw[← hM0]
 have HT:=zH ht
 have H:=zH h
 have G0:=zH (Gs.start h hxa rfl)
 obtain⟨hl,hp,hfl,hfp,hll,hlp,_⟩:=h.cells
 obtain⟨_,_,_,_,_,_,hs,hsl,_⟩:=h.tcells ht
 clear hM0 h ht
 go_enter Tryz.func294,Tryz.ntmps294
 go_wp2_with fail
 go_quiet ((go_at_call 114;first | exact zch (zbo _ _ s.vars _ ((H.out.alloc _).drewN _).vm (zal HT.out.ok.x)) | exact zc8 (zbo _ _ s.vars _ ((H.out.alloc _).drewN _).vm (zal HT.out.ok.x))))
 go_wp2_with fail
 refine zag (fun W=>Gs C w V w.heap.size W s x) (G0.out.drewN _) ?_
 intro w1 hG
 have G1:=zH hG
 clear hG
 obtain⟨hl1,hp1,hfl1,hfp1,hll1,hlp1,_⟩:=G1.out.le.cells
 obtain⟨_,_,_,_,_,_,hs1,hsl1,_⟩:=G1.out.le.tcells HT.out
 have hx1:=G1.out.cells
 have hxf1:=G1.out.xe.b.frozen
 have hxl1:=G1.out.xe.b.lt
 clear hl hp hfl hfp hll hlp hs hsl
 have MD0:=zH (HM0.out.trans MDa.out)
 refine(zhr C _ _ V t.x b hV G1.out.le (zal HT.out.ok.x)).mono ?_
 rintro e w2 (⟨p2,v,hr,rfl,rfl,hL,hch⟩ | ⟨f,g,hr,rfl,hfb,hle,hch⟩)
 rotate_left
 ·exact⟨rfl,.fault (MD0.out.trans (by rw[hr];rfl)) hfb (Nat.le_trans G1.out.sz hle) (G1.out.bel.trans hch)⟩
 have MD1:=zH (MD0.out.trans (by rw[hr,zae]))
 have G2:=zH (G1.out.arg hV hL hch)
 have Q2:=zH (zgl hr)
 clear hr hL hch
 obtain⟨hl2,hp2,hfl2,hfp2,hll2,hlp2,_⟩:=G2.out.le.cells
 obtain⟨_,_,_,_,_,_,hs2,hsl2,_⟩:=G2.out.le.tcells HT.out
 have hx2:=G2.out.cells
 have hxf2:=G2.out.xe.b.frozen
 have hxl2:=G2.out.xe.b.lt
 clear hl1 hp1 hfl1 hfp1 hll1 hlp1 hs1 hsl1 hx1 hxf1 hxl1
 go_wp2_with fail
 refine zbi (fun W=>Gs C w V w.heap.size W p2.2 { x with x:=p2.1 }) (G2.out.setX p2.1) ?_
 intro w3 hG
 have G3:=zH hG
 clear hG
 obtain⟨hl3,hp3,hfl3,hfp3,hll3,hlp3,_⟩:=G3.out.le.cells
 obtain⟨_,_,_,_,_,_,hs3,hsl3,_⟩:=G3.out.le.tcells HT.out
 have hx3:=G3.out.cells
 have hxf3:=G3.out.xe.b.frozen
 have hxl3:=G3.out.xe.b.lt
 clear hl2 hp2 hfl2 hfp2 hll2 hlp2 hs2 hsl2 hx2 hxf2 hxl2
 have HVS:=zH (show p2.2.vars=s.vars by rw[Q2.out])
 have HVM:=zH (show ∀ n,NM (w3.drewN n) C.vb s.vars from fun n=>HVS.out ▸ (G3.out.drewN n).le.vm)
 go_quiet ((go_at_call 114;first | exact zch (zbo _ _ s.vars _ (HVM.out _) (zal HT.out.ok.y)) | exact zc8 (zbo _ _ s.vars _ (HVM.out _) (zal HT.out.ok.y))))
 go_wp2_with fail
 refine zag (fun W=>Gs C w V w.heap.size W p2.2 { x with x:=p2.1 }) (G3.out.drewN _) ?_
 intro w4 hG
 have G4:=zH hG
 clear hG
 obtain⟨hl4,hp4,hfl4,hfp4,hll4,hlp4,_⟩:=G4.out.le.cells
 obtain⟨_,_,_,_,_,_,hs4,hsl4,_⟩:=G4.out.le.tcells HT.out
 have hx4:=G4.out.cells
 have hxf4:=G4.out.xe.b.frozen
 have hxl4:=G4.out.xe.b.lt
 clear hl3 hp3 hfl3 hfp3 hll3 hlp3 hs3 hsl3 hx3 hxf3 hxl3
 have MD2:=zH (MD1.out.trans (by rw[HLO.out _ HVS.out,zfv]))
 rw[show(Value.agg #[.string t.y.text,.int .i64 t.y.at_,.bool true,.int .i64 t.y.n])=zaq t.y by unfold zaq;rw[hn]]
 refine(zea C _ _ V t.y b hV G4.out.le (zal HT.out.ok.y)).mono ?_
 rintro e w5 (⟨p5,v,hr,rfl,rfl,hL,hch⟩ | ⟨f,g,hr,rfl,hfb,hle,hch⟩)
 rotate_left
 ·exact⟨rfl,.fault (MD2.out.trans (by rw[hr];rfl)) hfb (Nat.le_trans G4.out.sz hle) (G4.out.bel.trans hch)⟩
 have MD3:=zH (MD2.out.trans (by rw[hr,zae]))
 have G5:=zH (G4.out.arg hV hL hch)
 have Q5:=zH (zfk hr)
 clear hr hL hch
 obtain⟨hl5,hp5,hfl5,hfp5,hll5,hlp5,_⟩:=G5.out.le.cells
 obtain⟨_,_,_,_,_,_,hs5,hsl5,_⟩:=G5.out.le.tcells HT.out
 have hx5:=G5.out.cells
 have hxf5:=G5.out.xe.b.frozen
 have hxl5:=G5.out.xe.b.lt
 clear hl4 hp4 hfl4 hfp4 hll4 hlp4 hs4 hsl4 hx4 hxf4 hxl4
 go_wp2_with fail
 refine zag (fun W=>Gs C w V w.heap.size W p5.2 { x with x:=p2.1,y:=p5.1 }) (G5.out.setY p5.1) ?_
 intro w6 hG
 have G6:=zH hG
 clear hG
 obtain⟨hl6,hp6,hfl6,hfp6,hll6,hlp6,_⟩:=G6.out.le.cells
 obtain⟨_,_,_,_,_,_,hs6,hsl6,_⟩:=G6.out.le.tcells HT.out
 have hx6:=G6.out.cells
 have hxf6:=G6.out.xe.b.frozen
 have hxl6:=G6.out.xe.b.lt
 clear hl5 hp5 hfl5 hfp5 hll5 hlp5 hs5 hsl5 hx5 hxf5 hxl5
 have MD4:=zH (MD3.out.trans (if_neg HB.out))
 refine(zea C _ _ V t.z b hV G6.out.le (zal HT.out.ok.z)).mono ?_
 rintro e w7 (⟨p7,v,hr,rfl,rfl,hL,hch⟩ | ⟨f,g,hr,rfl,hfb,hle,hch⟩)
 rotate_left
 ·exact⟨rfl,.fault (MD4.out.trans (by rw[hr];rfl)) hfb (Nat.le_trans G6.out.sz hle) (G6.out.bel.trans hch)⟩
 have MD5:=zH (MD4.out.trans (by rw[hr,zae]))
 have G7:=zH (G6.out.arg hV hL hch)
 have Q7:=zH (zfk hr)
 clear hr hL hch
 obtain⟨hl7,hp7,hfl7,hfp7,hll7,hlp7,_⟩:=G7.out.le.cells
 obtain⟨_,_,_,_,_,_,hs7,hsl7,_⟩:=G7.out.le.tcells HT.out
 have hx7:=G7.out.cells
 have hxf7:=G7.out.xe.b.frozen
 have hxl7:=G7.out.xe.b.lt
 clear hl6 hp6 hfl6 hfp6 hll6 hlp6 hs6 hsl6 hx6 hxf6 hxl6
 go_wp2_with fail
 have MD6:=zH (HM0.out.symm.trans MD5.out)
 refine zag (fun W=>Gs C w V w.heap.size W p7.2 { x with x:=p2.1,y:=p5.1,z:=p7.1 }) (G7.out.setZ p7.1) ?_
 intro wz hGz
 have HGZ:=zH hGz
 clear hGz
 refine(zde C wz _ V { x with x:=p2.1,y:=p5.1,z:=p7.1 } (.slice none 0 0) HGZ.out.le (zdq Q7.out (zdq Q5.out (zdq Q2.out HCL.out))) HGZ.out.xe.a).mono ?_
 rintro e w9 ⟨rfl,V',hL9,hv9⟩
 have FIN:=zH (show zcw C w V M0 (.returned (.tuple #[])) w9 from .inl ⟨_,_,HM0.out.trans MD6.out,rfl,rfl,V',hL9,hv9⟩)
 clear hL9 hv9
 go_wp2_with fail
 first | go_end0 | refine bodyPost_ret (results_none rfl _ _ _) rfl ?_
 exact FIN.out
theorem set_bvar (C:LC)(w:World)(s:Lo)(V:LV)(sp b:Nat)(t:Stm)(x:In)(hV:V.lm=some b)(h:LE C w s V)(ht:TS C sp t)(hxa:x.args=[])(hcl:s.code.length<100000)(hv:mget s.vars t.x.text=none)(hn:t.y.num=false)(hb:t.bin≠0) :
  Calls Tryz.prog 294 #[.pointer (some ⟨C.lb,0,none⟩),.pointer (some ⟨sp,0,none⟩),insV x (.slice none 0 0)] w (zcw C w V (setM s t x)):=by
 have hb3:((t.bin:Int) != 0)=true:=bne_iff_ne.2 (by omega)
 have MDa:=zH (show setM s t x=zab (zbq s t.x) fun p=>zfv p.2 t { x with x:=p.1 } (zd1 p.2 t)from zis hv)
 have ke:=zim hv
 skip
 have HLO:=zH (show ∀ s',s'.vars=s.vars→zd1 s' t=none from fun s' h=>by unfold zd1;exact if_neg (fun h=>hb h.2))
 have HCL:=zH hcl
 have hb2:((t.bin:Int)==0)=false:=zai (by omega)
 have HB:=zH hb
 clear hv hb hcl
 obtain⟨M0,hM0⟩:∃ M,M=setM s t x:=⟨_,rfl⟩
 have HM0:=zH hM0
 rw[← hM0]
 have HT:=zH ht
 have H:=zH h
 have G0:=zH (Gs.start h hxa rfl)
 obtain⟨hl,hp,hfl,hfp,hll,hlp,_⟩:=h.cells
 obtain⟨_,_,_,_,_,_,hs,hsl,_⟩:=h.tcells ht
 clear hM0 h ht
 go_enter Tryz.func294,Tryz.ntmps294
 go_wp2_with fail
 go_quiet ((go_at_call 114;first | exact zch (zbo _ _ s.vars _ ((H.out.alloc _).drewN _).vm (zal HT.out.ok.x)) | exact zc8 (zbo _ _ s.vars _ ((H.out.alloc _).drewN _).vm (zal HT.out.ok.x))))
 go_wp2_with fail
 refine zag (fun W=>Gs C w V w.heap.size W s x) (G0.out.drewN _) ?_
 intro w1 hG
 have G1:=zH hG
 clear hG
 obtain⟨hl1,hp1,hfl1,hfp1,hll1,hlp1,_⟩:=G1.out.le.cells
 obtain⟨_,_,_,_,_,_,hs1,hsl1,_⟩:=G1.out.le.tcells HT.out
 have hx1:=G1.out.cells
 have hxf1:=G1.out.xe.b.frozen
 have hxl1:=G1.out.xe.b.lt
 clear hl hp hfl hfp hll hlp hs hsl
 have MD0:=zH (HM0.out.trans MDa.out)
 refine(zhr C _ _ V t.x b hV G1.out.le (zal HT.out.ok.x)).mono ?_
 rintro e w2 (⟨p2,v,hr,rfl,rfl,hL,hch⟩ | ⟨f,g,hr,rfl,hfb,hle,hch⟩)
 rotate_left
 ·exact⟨rfl,.fault (MD0.out.trans (by rw[hr];rfl)) hfb (Nat.le_trans G1.out.sz hle) (G1.out.bel.trans hch)⟩
 have MD1:=zH (MD0.out.trans (by rw[hr,zae]))
 have G2:=zH (G1.out.arg hV hL hch)
 have Q2:=zH (zgl hr)
 clear hr hL hch
 obtain⟨hl2,hp2,hfl2,hfp2,hll2,hlp2,_⟩:=G2.out.le.cells
 obtain⟨_,_,_,_,_,_,hs2,hsl2,_⟩:=G2.out.le.tcells HT.out
 have hx2:=G2.out.cells
 have hxf2:=G2.out.xe.b.frozen
 have hxl2:=G2.out.xe.b.lt
 clear hl1 hp1 hfl1 hfp1 hll1 hlp1 hs1 hsl1 hx1 hxf1 hxl1
 go_wp2_with fail
 refine zbi (fun W=>Gs C w V w.heap.size W p2.2 { x with x:=p2.1 }) (G2.out.setX p2.1) ?_
 intro w3 hG
 have G3:=zH hG
 clear hG
 obtain⟨hl3,hp3,hfl3,hfp3,hll3,hlp3,_⟩:=G3.out.le.cells
 obtain⟨_,_,_,_,_,_,hs3,hsl3,_⟩:=G3.out.le.tcells HT.out
 have hx3:=G3.out.cells
 have hxf3:=G3.out.xe.b.frozen
 have hxl3:=G3.out.xe.b.lt
 clear hl2 hp2 hfl2 hfp2 hll2 hlp2 hs2 hsl2 hx2 hxf2 hxl2
 have HVS:=zH (show p2.2.vars=s.vars by rw[Q2.out])
 have HVM:=zH (show ∀ n,NM (w3.drewN n) C.vb s.vars from fun n=>HVS.out ▸ (G3.out.drewN n).le.vm)
 go_quiet ((go_at_call 114;first | exact zch (zbo _ _ s.vars _ (HVM.out _) (zal HT.out.ok.y)) | exact zc8 (zbo _ _ s.vars _ (HVM.out _) (zal HT.out.ok.y))))
 go_wp2_with fail
 refine zag (fun W=>Gs C w V w.heap.size W p2.2 { x with x:=p2.1 }) (G3.out.drewN _) ?_
 intro w4 hG
 have G4:=zH hG
 clear hG
 obtain⟨hl4,hp4,hfl4,hfp4,hll4,hlp4,_⟩:=G4.out.le.cells
 obtain⟨_,_,_,_,_,_,hs4,hsl4,_⟩:=G4.out.le.tcells HT.out
 have hx4:=G4.out.cells
 have hxf4:=G4.out.xe.b.frozen
 have hxl4:=G4.out.xe.b.lt
 clear hl3 hp3 hfl3 hfp3 hll3 hlp3 hs3 hsl3 hx3 hxf3 hxl3
 have MD2:=zH (MD1.out.trans (by rw[HLO.out _ HVS.out,zfv]))
 rw[show(Value.agg #[.string t.y.text,.int .i64 t.y.at_,.bool false,.int .i64 t.y.n])=zaq t.y by unfold zaq;rw[hn]]
 refine(zea C _ _ V t.y b hV G4.out.le (zal HT.out.ok.y)).mono ?_
 rintro e w5 (⟨p5,v,hr,rfl,rfl,hL,hch⟩ | ⟨f,g,hr,rfl,hfb,hle,hch⟩)
 rotate_left
 ·exact⟨rfl,.fault (MD2.out.trans (by rw[hr];rfl)) hfb (Nat.le_trans G4.out.sz hle) (G4.out.bel.trans hch)⟩
 have MD3:=zH (MD2.out.trans (by rw[hr,zae]))
 have G5:=zH (G4.out.arg hV hL hch)
 have Q5:=zH (zfk hr)
 clear hr hL hch
 obtain⟨hl5,hp5,hfl5,hfp5,hll5,hlp5,_⟩:=G5.out.le.cells
 obtain⟨_,_,_,_,_,_,hs5,hsl5,_⟩:=G5.out.le.tcells HT.out
 have hx5:=G5.out.cells
 have hxf5:=G5.out.xe.b.frozen
 have hxl5:=G5.out.xe.b.lt
 clear hl4 hp4 hfl4 hfp4 hll4 hlp4 hs4 hsl4 hx4 hxf4 hxl4
 go_wp2_with fail
 refine zag (fun W=>Gs C w V w.heap.size W p5.2 { x with x:=p2.1,y:=p5.1 }) (G5.out.setY p5.1) ?_
 intro w6 hG
 have G6:=zH hG
 clear hG
 obtain⟨hl6,hp6,hfl6,hfp6,hll6,hlp6,_⟩:=G6.out.le.cells
 obtain⟨_,_,_,_,_,_,hs6,hsl6,_⟩:=G6.out.le.tcells HT.out
 have hx6:=G6.out.cells
 have hxf6:=G6.out.xe.b.frozen
 have hxl6:=G6.out.xe.b.lt
 clear hl5 hp5 hfl5 hfp5 hll5 hlp5 hs5 hsl5 hx5 hxf5 hxl5
 have MD4:=zH (MD3.out.trans (if_neg HB.out))
 refine(zea C _ _ V t.z b hV G6.out.le (zal HT.out.ok.z)).mono ?_
 rintro e w7 (⟨p7,v,hr,rfl,rfl,hL,hch⟩ | ⟨f,g,hr,rfl,hfb,hle,hch⟩)
 rotate_left
 ·exact⟨rfl,.fault (MD4.out.trans (by rw[hr];rfl)) hfb (Nat.le_trans G6.out.sz hle) (G6.out.bel.trans hch)⟩
 have MD5:=zH (MD4.out.trans (by rw[hr,zae]))
 have G7:=zH (G6.out.arg hV hL hch)
 have Q7:=zH (zfk hr)
 clear hr hL hch
 obtain⟨hl7,hp7,hfl7,hfp7,hll7,hlp7,_⟩:=G7.out.le.cells
 obtain⟨_,_,_,_,_,_,hs7,hsl7,_⟩:=G7.out.le.tcells HT.out
 have hx7:=G7.out.cells
 have hxf7:=G7.out.xe.b.frozen
 have hxl7:=G7.out.xe.b.lt
 clear hl6 hp6 hfl6 hfp6 hll6 hlp6 hs6 hsl6 hx6 hxf6 hxl6
 go_wp2_with fail
 have MD6:=zH (HM0.out.symm.trans MD5.out)
 refine zag (fun W=>Gs C w V w.heap.size W p7.2 { x with x:=p2.1,y:=p5.1,z:=p7.1 }) (G7.out.setZ p7.1) ?_
 intro wz hGz
 have HGZ:=zH hGz
 clear hGz
 refine(zde C wz _ V { x with x:=p2.1,y:=p5.1,z:=p7.1 } (.slice none 0 0) HGZ.out.le (zdq Q7.out (zdq Q5.out (zdq Q2.out HCL.out))) HGZ.out.xe.a).mono ?_
 rintro e w9 ⟨rfl,V',hL9,hv9⟩
 have FIN:=zH (show zcw C w V M0 (.returned (.tuple #[])) w9 from .inl ⟨_,_,HM0.out.trans MD6.out,rfl,rfl,V',hL9,hv9⟩)
 clear hL9 hv9
 go_wp2_with fail
 first | go_end0 | refine bodyPost_ret (results_none rfl _ _ _) rfl ?_
 exact FIN.out
theorem set_any (C:LC)(w:World)(s:Lo)(V:LV)(sp b:Nat)(t:Stm)(x:In)(hV:V.lm=some b)(h:LE C w s V)(ht:TS C sp t)(hxa:x.args=[])(hcl:s.code.length<100000) :
  Calls Tryz.prog 294 #[.pointer (some ⟨C.lb,0,none⟩),.pointer (some ⟨sp,0,none⟩),insV x (.slice none 0 0)] w (zcw C w V (setM s t x)):=by
 cases hv:mget s.vars t.x.text with
 | some v =>
  by_cases hb:t.bin=0
  ·exact zvb C w s V sp b t x hV h ht hxa hcl v hv hb
  ·exact set_op C w s V sp b t x hV h ht hxa hcl v hv hb
 | none =>
  by_cases hb:t.bin=0
  ·cases hn:t.y.num
   ·cases hw:mget s.vars t.y.text with
    | some v=>exact set_load C w s V sp b t x hV h ht hxa hcl hv hn hb v hw
    | none=>exact set_var C w s V sp b t x hV h ht hxa hcl hv hn hw hb
   ·exact set_num C w s V sp b t x hV h ht hxa hcl hv hn hb
  ·cases hn:t.y.num
   ·exact set_bvar C w s V sp b t x hV h ht hxa hcl hv hn hb
   ·exact set_bnum C w s V sp b t x hV h ht hxa hcl hv hn hb
end
section
open Go.RowKit Go.Maps
def zko (n:Nat)(i:In):In:=⟨i.op,i.place,i.fn,i.x,i.y,i.z,i.bin,i.var,i.site,i.call,i.args,n⟩
theorem zxt {ags:List Value}{code:List In}(h:ags.length=code.length)(k n:Nat)(hk:k<code.length) :
  (zcx ags code).set (k*14+13) (.int .i64 (n:Int))=zcx ags (code.modify k (zko n)):=by
 induction code generalizing ags k with
 | nil=>simp at hk
 | cons c r ih =>
  cases ags with
  | nil=>simp at h
  | cons a as' =>
   have hl:(zas c a).length=14:=rfl
   cases k with
   | zero =>
    show(zas c a++zcx as' r).set 13 _=_
    rw[List.set_append_left _ _ (by rw[hl];omega)]
    rfl
   | succ k =>
    show(zas c a++zcx as' r).set ((k+1)*14+13) _=zas c a++zcx as' (r.modify k _)
    rw[List.set_append_right _ _ (by rw[hl];omega),hl,show(k+1)*14+13-14=k*14+13 by omega,ih (by simpa using h) k (by simpa using hk)]
theorem zl6 {ags:List Value}{code:List In}(h:ags.length=code.length)(k:Nat)(hk:k<code.length):∃ i:In,(zcx ags code)[k*14+13]? = some (.int .i64 (i.to:Int)):=by
 induction code generalizing ags k with
 | nil=>simp at hk
 | cons c r ih =>
  cases ags with
  | nil=>simp at h
  | cons a as' =>
   have hl:(zas c a).length=14:=rfl
   cases k with
   | zero=>exact⟨c,by show(zas c a++zcx as' r)[0*14+13]? = _;rw[List.getElem?_append_left (by rw[hl];omega)];rfl⟩
   | succ k =>
    obtain⟨i,hi⟩:=ih (by simpa using h) k (by simpa using hk)
    exact⟨i,by show(zas c a++zcx as' r)[(k+1)*14+13]? = _;rw[List.getElem?_append_right (by rw[hl];omega),hl,show(k+1)*14+13-14=k*14+13 by omega];exact hi⟩
theorem LE.patch {C:LC}{w:World}{s:Lo}{V:LV}{g cap k:Nat}(h:LE C w s V)(hcv:V.cv=.slice (some ⟨g,0,none⟩) s.code.length cap)(hk:k<s.code.length) :
  LE C (w.setCell ⟨g,k*14+13,none⟩ (.int .i64 (s.code.length:Int))) (s.patch k) V:=by
 have hcr:=h.cr
 rw[hcv]at hcr
 obtain⟨cs,hg⟩:=zba hcr (k:=g) rfl
 have hB:C.B≤g:=(hcr.lt g rfl).1
 have hne:∀ {j:Nat} {t:TypeId} {cs':Array Value},Blk w j t cs'→t≠309→j≠g:=fun hj ht=>hj.ne_ hg ht
 have hrow:∀ {B e size n:Nat} {v:Value} {ys:List Value},w.ownsRow B e size v n ys→e≠309→(w.setCell ⟨g,k*14+13,none⟩ (.int .i64 (s.code.length:Int))).ownsRow B e size v n ys:=fun hr he=>zaj hr hg he _ _
 have hmap:∀ {b:Nat} {m:NMap},NM w b m→NM (w.setCell ⟨g,k*14+13,none⟩ (.int .i64 (s.code.length:Int))) b m:=fun hm=>hm.far (hm.cellFar hg) _
 have hlen:(s.code.modify k (zko s.code.length)).length=s.code.length:=List.length_modify _ _ _
 refine⟨h.c,h.bel.setCell hB _,h.l.far (hne h.l (by decide)) _,h.p.far (hne h.p (by decide)) _,hmap h.vm,hmap h.mm,hmap h.fm,fun b hb=>⟨hmap (h.lm b hb).1,(h.lm b hb).2⟩,hrow h.fr (by decide),?_,by rw[h.asl];exact hlen.symm,?_,hrow h.atr (by decide),hrow h.nr (by decide),hrow h.gr (by decide),h.s1,h.s2,h.s3,
  ⟨h.i.fl,h.i.f5,h.i.al,h.i.nl,h.i.gl,h.i.fok⟩⟩
 ·show World.ownsRow _ C.B _ 14 V.cv (s.code.modify k (zko s.code.length)).length (zcx V.ags (s.code.modify k (zko s.code.length)))
  rw[hlen,← zxt h.asl k s.code.length hk,hcv]
  exact(hcr.stored (k*14+13) _).1
 ·intro j a i ha hi
  have hi':(s.code.modify k (zko s.code.length))[j]? = some i:=hi
  rw[List.getElem?_modify]at hi'
  cases hj:s.code[j]? with
  | none=>rw[hj]at hi';simp at hi'
  | some i0 =>
   rw[hj]at hi'
   simp at hi'
   have h1:=hrow (h.ar j a i0 ha hj) (by decide)
   have:i.args=i0.args:=by rw[← hi'];split <;> rfl
   unfold zhe at h1 ⊢
   rw[this]
   exact h1
end
section
theorem zeo {s:Lo}{n:Nm}{p:Ar×Lo}(h:argM s n=.ok p):p.2.code=s.code:=by rw[zfk h]
theorem zjx {s:Lo}{n:Nm}{p:Nat×Lo}(h:zbq s n=.ok p):p.2.code=s.code:=by rw[zgl h]
theorem zsp:∀ (l:List Nm) {s:Lo} {p:List Ar×Lo},zcz s l=.ok p→p.2.code=s.code
 | [],s,p,h=>by rw[zcz]at h;injection h with h;subst h;rfl
 | n::r,s,p,h=>by
  rw[zcz]at h
  obtain⟨q,h1,h2⟩:=zac h
  obtain⟨u,h3,h4⟩:=zac h2
  injection h4 with h4;subst h4
  exact(zsp r h3).trans (zeo h1)
theorem zrm {s:Lo}{t:Stm}{x:In}{p:In×Lo}(h:zc2 s t x=.ok p):p.2.code=s.code:=by
 unfold zc2 at h
 split at h
 ·cases h
 ·split at h
  ·obtain⟨q,h1,h2⟩:=zac h
   injection h2 with h2;subst h2
   exact zsp _ h1
  ·cases h
theorem zk7 {s:Lo}{t:Stm}{x:In}{p:In×Lo}(h:zbv s t x=.ok p):p.2.code=s.code:=by
 unfold zbv at h
 split at h
 ·split at h
  ·cases h
  ·injection h with h;subst h;rfl
 ·split at h
  ·split at h
   ·cases h
   ·exact(zrm h).trans rfl
  ·split at h
   ·exact zrm h
   ·obtain⟨q,h1,h2⟩:=zac h
    injection h2 with h2;subst h2
    exact zeo h1
theorem zb6 (s:Lo)(x:In):(s.emit x).code.length=s.code.length+1:=by simp[Lo.emit]
theorem zgs (s:Lo)(k:Nat):(s.patch k).code.length=s.code.length:=List.length_modify _ _ _
theorem zq2 {s s':Lo}{t:Stm}{x:In}(h:setM s t x=.ok s'):s'.code.length=s.code.length+1:=by
 cases hv:mget s.vars t.x.text with
 | some v =>
  unfold setM at h
  rw[hv]at h
  simp only at h
  split at h
  ·obtain⟨q,h1,h2⟩:=zac h
   injection h2 with h2;subst h2
   rw[zb6,zeo h1]
  ·cases h
 | none =>
  rw[zis hv]at h
  obtain⟨q,h1,h2⟩:=zac h
  unfold zfv at h2
  split at h2
  ·injection h2 with h2;subst h2
   rw[zb6,zjx h1]
  ·obtain⟨r,h3,h4⟩:=zac h2
   split at h4
   ·injection h4 with h4;subst h4
    rw[zb6,zeo h3,zjx h1]
   ·obtain⟨u,h5,h6⟩:=zac h4
    injection h6 with h6;subst h6
    rw[zb6,zeo h5,zeo h3,zjx h1]
theorem zpp {s s':Lo}{t:Stm}{x:In}(h:zhz s t x=.ok s'):s'.code.length=s.code.length+1:=by
 unfold zhz at h
 split at h
 ·split at h
  ·injection h with h;subst h;exact zb6 _ _
  ·cases h
 ·split at h
  ·obtain⟨q,h1,h2⟩:=zac h
   injection h2 with h2;subst h2
   rw[zb6,zeo h1]
  ·split at h
   ·split at h
    ·obtain⟨q,h1,h2⟩:=zac h
     injection h2 with h2;subst h2
     rw[zb6,zeo h1]
    ·injection h with h;subst h;exact zb6 _ _
   ·split at h
    ·obtain⟨q,h1,h2⟩:=zac h
     obtain⟨r,h3,h4⟩:=zac h2
     injection h4 with h4;subst h4
     rw[zb6,zeo h3,zjx h1]
    ·split at h
     ·obtain⟨q,h1,h2⟩:=zac h
      injection h2 with h2;subst h2
      rw[zb6,zk7 h1]
     ·obtain⟨q,h1,h2⟩:=zac h
      obtain⟨r,h3,h4⟩:=zac h2
      injection h4 with h4;subst h4
      rw[zb6,zk7 h3,zjx h1]
theorem ztk {block:Lo→List Nat→Except Flt Lo}{s s':Lo}{t:Stm}{x:In}{a c:Nat}(h1:∀ s s',block s t.body=.ok s'→s'.code.length≤s.code.length+a)(h2:∀ s s',block s t.els=.ok s'→s'.code.length≤s.code.length+c)
  (h:zdm block s t x=.ok s'):s'.code.length≤s.code.length+2+a+c:=by
 unfold zdm at h
 obtain⟨p,h3,h4⟩:=zac h
 obtain⟨s2,h5,h6⟩:=zac h4
 have b1:=h1 _ _ h5
 rw[zb6,zeo h3]at b1
 split at h6
 ·injection h6 with h6;subst h6
  rw[zgs,zb6];omega
 ·split at h6
  ·obtain⟨s3,h7,h8⟩:=zac h6
   injection h8 with h8;subst h8
   have b2:=h2 _ _ h7
   rw[zgs,zb6]at b2
   rw[zgs];omega
  ·injection h6 with h6;subst h6
   rw[zgs];omega
theorem zo8 {block:Lo→List Nat→Except Flt Lo}{s s':Lo}{t:Stm}{k a c:Nat}(h1:∀ s s',block s t.body=.ok s'→s'.code.length≤s.code.length+a)(h2:∀ s s',block s t.els=.ok s'→s'.code.length≤s.code.length+c)
  (h:zdt block s t k=.ok s'):s'.code.length≤s.code.length+2+a+c:=by
 unfold zdt at h
 split at h
 ·cases h
 ·split at h
  ·have:=zq2 h
   have e:(s.note k t.at_).code.length=s.code.length:=rfl
   omega
  ·split at h
   ·have:=ztk h1 h2 h
    have e:(s.note k t.at_).code.length=s.code.length:=rfl
    omega
   ·have:=zpp h
    have e:(s.note k t.at_).code.length=s.code.length:=rfl
    omega
theorem zf9 {xs:List Stm}:∀ (fuel:Nat) {s s':Lo} {ids:List Nat} {k e:Nat},za3 (fun j=>xs[j]?) ids k e→zax xs fuel s ids=.ok s'→s'.code.length≤s.code.length+3*(e-k)
 | 0,s,s',ids,k,e,_,h=>by simp[zax]at h
 | n+1,s,s',ids,k,e,hs,h=>by
  cases hs with
  | nil=>rw[zax]at h;injection h with h;subst h;omega
  | cons h0 ho b1 b2 b3 =>
   rename_i m n' x r
   have h0':xs[k]? = some x:=h0
   rw[zax,h0']at h
   simp only at h
   obtain⟨s2,h1,h2⟩:=zac h
   have c1:=zo8 (fun s s' hh=>zf9 n b1 hh) (fun s s' hh=>zf9 n b2 hh) h1
   have c2:=zf9 n b3 h2
   have l1:=b1.le
   have l2:=b2.le
   have l3:=b3.le
   omega
theorem zx5 {block:Lo→List Nat→Except Flt Lo}{s s':Lo}{t:Stm}{x:In}(hb:∀ s s' l,block s l=.ok s'→s.code.length≤s'.code.length)(h:zdm block s t x=.ok s'):s.code.length+1≤s'.code.length:=by
 unfold zdm at h
 obtain⟨p,h3,h4⟩:=zac h
 obtain⟨s2,h5,h6⟩:=zac h4
 have b1:=hb _ _ _ h5
 rw[zb6,zeo h3]at b1
 split at h6
 ·injection h6 with h6;subst h6
  rw[zgs,zb6];omega
 ·split at h6
  ·obtain⟨s3,h7,h8⟩:=zac h6
   injection h8 with h8;subst h8
   have b2:=hb _ _ _ h7
   rw[zgs,zb6]at b2
   rw[zgs];omega
  ·injection h6 with h6;subst h6
   rw[zgs];omega
theorem zi0 {xs:List Stm}:∀ (fuel:Nat) (s s':Lo) (ids:List Nat),zax xs fuel s ids=.ok s'→s.code.length≤s'.code.length
 | 0,s,s',ids,h=>by simp[zax]at h
 | n+1,s,s',[],h=>by rw[zax]at h;injection h with h;subst h;exact Nat.le_refl _
 | n+1,s,s',k::r,h=>by
  rw[zax]at h
  split at h
  ·rename_i t _
   obtain⟨s2,h1,h2⟩:=zac h
   have c2:=zi0 n _ _ _ h2
   have e:(s.note k t.at_).code.length=s.code.length:=rfl
   have c1:s.code.length≤s2.code.length:=by
    unfold zdt at h1
    split at h1
    ·cases h1
    ·split at h1
     ·have:=zq2 h1;omega
     ·split at h1
      ·have:=zx5 (fun s s' l hh=>zi0 n s s' l hh) h1;omega
      ·have:=zpp h1;omega
   omega
  ·cases h
end
section
open Go.RowKit Go.Maps
attribute [local go_sem] zaq arV insV zas
def zmu {α : Type}(C:LC)(r:Except Flt α)(K:α → Value→World→Prop)(e:Ending)(w':World):Prop :=
 (∃ a v,r=.ok a∧e=.returned v∧K a v w') ∨
 (∃ f b,r=.error f∧e=.panicked (zfm b)∧za1 w' b f∧C.B≤b∧Below C.B C.w0 w')
theorem zci.abs {α : Type}{C:LC}{w w':World}{s:Lo}{V:LV}{r:Except Flt α}{K:α → Value→World→Prop}{e:Ending}(h:zci C w r K e w')(hL:LE C w s V):zmu C r K e w':=by
 rcases h with h | ⟨f,b,h1,h2,h3,h4,h5⟩
 ·exact .inl h
 ·exact .inr ⟨f,b,h1,h2,h3,Nat.le_trans hL.bel.size h4,hL.bel.trans h5⟩
def zdf (C:LC)(V:LV)(M:Except Flt Lo):Ending→World→Prop:=zmu C M fun s' v w'=>v=.tuple #[]∧∃ V',LE C w' s' V'∧V'.lm=V.lm
structure TC (C:LC)(sp:Nat)(t:Stm)(av bv ev:Value):Prop where
 b:Blk C.w0 sp 439 (zbg t av bv ev)
 n:zbs C.w0 C.B0 av t.args
 i:zbe C.w0 C.B0 bv t.body
 e:zbe C.w0 C.B0 ev t.els
theorem LE.tc {C:LC}{w:World}{s:Lo}{V:LV}{sp:Nat}{t:Stm}{av bv ev:Value}(h:LE C w s V)(T:TC C sp t av bv ev):∀ i,w.cell? ⟨sp,i,none⟩=#[.int .i64 t.op,.int .i64 t.at_,.int .i64 t.mark,
  .string t.x.text,.int .i64 t.x.at_,.bool t.x.num,.int .i64 t.x.n,.string t.y.text,.int .i64 t.y.at_,.bool t.y.num,.int .i64 t.y.n,
  .string t.z.text,.int .i64 t.z.at_,.bool t.z.num,.int .i64 t.z.n,.string t.f.text,.int .i64 t.f.at_,.bool t.f.num,.int .i64 t.f.n,
  av,.int .i64 t.bin,.int .i64 t.field,.bool t.has,bv,ev][i]? := (T.b.below h.bel T.b.lt).cell
def zfr (C:LC)(n:Nat):Prop:=∀ (w:World) (s:Lo) (V:LV) (b:Nat) (bv:Value) (ids:List Nat) (k e fuel:Nat),V.lm=some b→LE C w s V→zbe C.w0 C.B0 bv ids→za3 (fun j=>C.xs[j]?) ids k e→e-k≤n→e-k<fuel→s.code.length+3*(e-k)≤90000 →
 Calls Tryz.prog 161 #[.pointer (some ⟨C.lb,0,none⟩),bv] w (zdf C V (zax C.xs fuel s ids))
theorem znn {s s1:Lo}{x:In}{a N:Nat}(h:s1.code.length=s.code.length)(hn:s.code.length+1+a≤N):(s1.emit x).code.length+a≤N:=by rw[zb6,h];exact hn
theorem kbound {p s k m e:Nat}(h:p≤s+1+3*(m-k))(h1:k≤m)(h2:m≤e)(hc:s+2+3*(e-k)≤90000):p+1+3*(e-m)≤90000:=by omega
theorem zx7 (C:LC)(n:Nat)(w:World)(s:Lo)(V:LV)(sp b k m e fuel:Nat)(t:Stm)(x:In)(av bv ev:Value)(HB:zfr C n)(hV:V.lm=some b)(h:LE C w s V)(ht:TS C sp t)(T:TC C sp t av bv ev)(hxa:x.args=[])
  (hb1:za3 (fun j=>C.xs[j]?) t.body k m) (hb2:za3 (fun j=>C.xs[j]?) t.els m e) (hn:e-k≤n) (hf:n<fuel) (hcl:s.code.length+2+3*(e-k)≤90000) (ho:t.op=14) :
  Calls Tryz.prog 295 #[.pointer (some ⟨C.lb,0,none⟩),.pointer (some ⟨sp,0,none⟩),insV x (.slice none 0 0)] w (zdf C V (zdm (zax C.xs fuel) s t x)):=by
 have o1:((t.op:Int)==14)=true:=by rw[beq_iff_eq];omega
 have HO:=zH ho
 clear ho
 obtain⟨M0,hM0⟩:∃ M,M=zdm (zax C.xs fuel) s t x:=⟨_,rfl⟩
 have HM0:=zH hM0
 rw[← hM0]
 have HT:=zH ht
 have T0:=zH T
 have H:=zH h
 have G0:=zH (Gs.start h hxa rfl)
 have l1:=hb1.le
 have l2:=hb2.le
 have HB1:=zH hb1
 have HB2:=zH hb2
 obtain⟨ba,bc,hbv⟩:=zat T.i
 obtain⟨ea,ec,hev⟩:=zat T.e
 subst hbv hev
 have MD0:=zH (hM0.trans (zdm.eq_1 (zax C.xs fuel) s t x))
 clear hM0 h ht T hb1 hb2
 obtain⟨hl0,hp0,hfl0,hfp0,hll0,hlp0,_⟩:=H.out.cells
 have hs0:=H.out.tc T0.out
 have hsl0:=Nat.lt_of_lt_of_le HT.out.lt H.out.bel.size
 go_enter Tryz.func295,Tryz.ntmps295
 go_wp2_with fail
 refine(zea C _ _ V t.y b hV G0.out.le (zal HT.out.ok.y)).mono ?_
 rintro e w1 (⟨p1,v,hr,rfl,rfl,hL,hch⟩ | ⟨f,g,hr,rfl,hfb,hle,hch⟩)
 rotate_left
 ·exact⟨rfl,(zci.fault (MD0.out.trans (by rw[hr];rfl)) hfb (Nat.le_trans G0.out.sz hle) (G0.out.bel.trans hch)).abs H.out⟩
 have MD1:=zH (MD0.out.trans (by rw[hr,zae]))
 have G1:=zH (G0.out.arg hV hL hch)
 have hc1:p1.2.code.length=s.code.length:=by rw[zeo hr]
 have HCl:=zH hc1
 clear hr hL hch hc1
 clear hl0 hp0 hfl0 hfp0 hll0 hlp0 hs0 hsl0
 obtain⟨hl1,hp1,hfl1,hfp1,hll1,hlp1,_⟩:=G1.out.le.cells
 have hs1:=G1.out.le.tc T0.out
 have hx1:=G1.out.cells
 have hxf1:=G1.out.xe.b.frozen
 have hxl1:=G1.out.xe.b.lt
 go_wp2_with fail
 refine zag (fun W=>Gs C w V w.heap.size W p1.2 { x with y:=p1.1 }) (G1.out.setY p1.1) ?_
 intro wz hGz
 have GZ:=zH hGz
 clear hGz hl1 hp1 hfl1 hfp1 hll1 hlp1 hs1 hx1 hxf1 hxl1
 refine(zde C _ _ V { x with y:=p1.1 } (.slice none 0 0) GZ.out.le ((HCl.out ▸ (by omega))) GZ.out.xe.a).mono ?_
 rintro e w2 ⟨rfl,V2,hL,hv⟩
 have L2:=zH hL
 have W2:=zH hv
 clear hL hv
 obtain⟨hl2,hp2,hfl2,hfp2,hll2,hlp2,_⟩:=L2.out.cells
 have hs2:=L2.out.tc T0.out
 have hsl2:=Nat.lt_of_lt_of_le HT.out.lt L2.out.bel.size
 go_wp2_with fail
 refine(HB _ _ V2 b _ _ _ _ fuel (W2.out.trans hV) L2.out T0.out.i HB1.out (by omega) (by omega) (znn HCl.out (by omega))).mono ?_
 rintro e w3 (⟨p3,v,hr,rfl,rfl,V3,hL,hv⟩ | ⟨f,g,hr,rfl,hfb,hle,hch⟩)
 rotate_left
 ·exact⟨rfl,.inr ⟨f,g,MD1.out.trans (by rw[hr,zc1]),rfl,hfb,hle,hch⟩⟩
 have MD2:=zH (MD1.out.trans (by rw[hr,zae]))
 have R3:=zH hr
 have L3:=zH hL
 have v3:=zH (hv.trans (W2.out.trans hV))
 have W3:=zH hv
 clear hr hL hv
 obtain⟨hl3,hp3,hfl3,hfp3,hll3,hlp3,_⟩:=L3.out.cells
 have hs3:=L3.out.tc T0.out
 have hsl3:=Nat.lt_of_lt_of_le HT.out.lt L3.out.bel.size
 clear hl2 hp2 hfl2 hfp2 hll2 hlp2 hs2 hsl2
 go_wp2_with fail
 have hlen3:=zf9 _ HB1.out R3.out
 have hge3:=zi0 _ _ _ _ R3.out
 rw[zb6,HCl.out]at hlen3 hge3
 have HLN:=zH hlen3
 have HGE:=zH hge3
 clear hlen3 hge3
 refine(zde C _ _ V3 (zho p1.2.code.length) (.slice none 0 0) L3.out ((Nat.lt_of_le_of_lt HLN.out (by omega))) (World.ownsRow_nil _ _ _ _)).mono ?_
 rintro e w4 ⟨rfl,V4,hL,hv⟩
 have L4:=zH hL
 have W4:=zH hv
 clear hL hv
 obtain⟨hl4,hp4,hfl4,hfp4,hll4,hlp4,_⟩:=L4.out.cells
 have hs4:=L4.out.tc T0.out
 have hsl4:=Nat.lt_of_lt_of_le HT.out.lt L4.out.bel.size
 have MD4:=zH (MD2.out.trans (if_pos HO.out))
 have hkl:p1.2.code.length<(p3.emit (zho p1.2.code.length)).code.length:=by rw[zb6,HCl.out];have:=HGE.out;omega
 obtain⟨cg,ccap,hcv4,_,_⟩:=L4.out.cr.form (by omega)
 rw[hcv4]at hp4
 obtain⟨ci,hci⟩:=zl6 L4.out.asl p1.2.code.length (hkl)
 have hcr4:=L4.out.cr
 rw[hcv4]at hcr4
 have hcc4:w4.cell? ⟨cg,p1.2.code.length*14+13,none⟩=some (.int .i64 (ci.to:Int)):=by rw[hcr4.cellAt (p1.2.code.length*14+13) (by omega)];exact hci
 have hcf4:w4.frozen? ⟨cg,p1.2.code.length*14+13,none⟩=false:=hcr4.frozenAt (p1.2.code.length*14+13)
 have hcg4:cg<w4.heap.size:=(hcr4.lt cg rfl).2
 have LP4:=zH (L4.out.patch hcv4 (hkl))
 have hnl4:C.lb≠cg:=by
  obtain⟨cs,hgb⟩:=zba hcr4 (k:=cg) rfl
  exact L4.out.l.ne_ hgb (by decide)
 have hnp4:C.pb≠cg:=by
  obtain⟨cs,hgb⟩:=zba hcr4 (k:=cg) rfl
  exact L4.out.p.ne_ hgb (by decide)
 clear hci hcr4
 clear hl3 hp3 hfl3 hfp3 hll3 hlp3 hs3 hsl3
 go_wp2_with fail
 go_region
 all_goals go_end0
 all_goals exact .inl ⟨_,_,MD4.out,rfl,rfl,V4,LP4.out.drew,W4.out.trans (W3.out.trans W2.out)⟩
theorem zyf (C:LC)(n:Nat)(w:World)(s:Lo)(V:LV)(sp b k m e fuel:Nat)(t:Stm)(x:In)(av bv ev:Value)(HB:zfr C n)(hV:V.lm=some b)(h:LE C w s V)(ht:TS C sp t)(T:TC C sp t av bv ev)(hxa:x.args=[])
  (hb1:za3 (fun j=>C.xs[j]?) t.body k m) (hb2:za3 (fun j=>C.xs[j]?) t.els m e) (hn:e-k≤n) (hf:n<fuel) (hcl:s.code.length+2+3*(e-k)≤90000) (ho:t.op≠14) (hh:t.has=false) :
  Calls Tryz.prog 295 #[.pointer (some ⟨C.lb,0,none⟩),.pointer (some ⟨sp,0,none⟩),insV x (.slice none 0 0)] w (zdf C V (zdm (zax C.xs fuel) s t x)):=by
 have o1:((t.op:Int)==14)=false:=zai (by omega)
 have HO:=zH ho
 clear ho
 obtain⟨M0,hM0⟩:∃ M,M=zdm (zax C.xs fuel) s t x:=⟨_,rfl⟩
 have HM0:=zH hM0
 rw[← hM0]
 have HT:=zH ht
 have T0:=zH T
 have H:=zH h
 have G0:=zH (Gs.start h hxa rfl)
 have l1:=hb1.le
 have l2:=hb2.le
 have HB1:=zH hb1
 have HB2:=zH hb2
 obtain⟨ba,bc,hbv⟩:=zat T.i
 obtain⟨ea,ec,hev⟩:=zat T.e
 subst hbv hev
 have MD0:=zH (hM0.trans (zdm.eq_1 (zax C.xs fuel) s t x))
 clear hM0 h ht T hb1 hb2
 obtain⟨hl0,hp0,hfl0,hfp0,hll0,hlp0,_⟩:=H.out.cells
 have hs0:=H.out.tc T0.out
 have hsl0:=Nat.lt_of_lt_of_le HT.out.lt H.out.bel.size
 go_enter Tryz.func295,Tryz.ntmps295
 go_wp2_with fail
 refine(zea C _ _ V t.y b hV G0.out.le (zal HT.out.ok.y)).mono ?_
 rintro e w1 (⟨p1,v,hr,rfl,rfl,hL,hch⟩ | ⟨f,g,hr,rfl,hfb,hle,hch⟩)
 rotate_left
 ·exact⟨rfl,(zci.fault (MD0.out.trans (by rw[hr];rfl)) hfb (Nat.le_trans G0.out.sz hle) (G0.out.bel.trans hch)).abs H.out⟩
 have MD1:=zH (MD0.out.trans (by rw[hr,zae]))
 have G1:=zH (G0.out.arg hV hL hch)
 have hc1:p1.2.code.length=s.code.length:=by rw[zeo hr]
 have HCl:=zH hc1
 clear hr hL hch hc1
 clear hl0 hp0 hfl0 hfp0 hll0 hlp0 hs0 hsl0
 obtain⟨hl1,hp1,hfl1,hfp1,hll1,hlp1,_⟩:=G1.out.le.cells
 have hs1:=G1.out.le.tc T0.out
 have hx1:=G1.out.cells
 have hxf1:=G1.out.xe.b.frozen
 have hxl1:=G1.out.xe.b.lt
 go_wp2_with fail
 refine zag (fun W=>Gs C w V w.heap.size W p1.2 { x with y:=p1.1 }) (G1.out.setY p1.1) ?_
 intro wz hGz
 have GZ:=zH hGz
 clear hGz hl1 hp1 hfl1 hfp1 hll1 hlp1 hs1 hx1 hxf1 hxl1
 refine(zde C _ _ V { x with y:=p1.1 } (.slice none 0 0) GZ.out.le ((HCl.out ▸ (by omega))) GZ.out.xe.a).mono ?_
 rintro e w2 ⟨rfl,V2,hL,hv⟩
 have L2:=zH hL
 have W2:=zH hv
 clear hL hv
 obtain⟨hl2,hp2,hfl2,hfp2,hll2,hlp2,_⟩:=L2.out.cells
 have hs2:=L2.out.tc T0.out
 have hsl2:=Nat.lt_of_lt_of_le HT.out.lt L2.out.bel.size
 go_wp2_with fail
 refine(HB _ _ V2 b _ _ _ _ fuel (W2.out.trans hV) L2.out T0.out.i HB1.out (by omega) (by omega) (znn HCl.out (by omega))).mono ?_
 rintro e w3 (⟨p3,v,hr,rfl,rfl,V3,hL,hv⟩ | ⟨f,g,hr,rfl,hfb,hle,hch⟩)
 rotate_left
 ·exact⟨rfl,.inr ⟨f,g,MD1.out.trans (by rw[hr,zc1]),rfl,hfb,hle,hch⟩⟩
 have MD2:=zH (MD1.out.trans (by rw[hr,zae]))
 have R3:=zH hr
 have L3:=zH hL
 have v3:=zH (hv.trans (W2.out.trans hV))
 have W3:=zH hv
 clear hr hL hv
 obtain⟨hl3,hp3,hfl3,hfp3,hll3,hlp3,_⟩:=L3.out.cells
 have hs3:=L3.out.tc T0.out
 have hsl3:=Nat.lt_of_lt_of_le HT.out.lt L3.out.bel.size
 clear hl2 hp2 hfl2 hfp2 hll2 hlp2 hs2 hsl2
 go_wp2_with fail
 have hlen3:=zf9 _ HB1.out R3.out
 have hge3:=zi0 _ _ _ _ R3.out
 rw[zb6,HCl.out]at hlen3 hge3
 have HLN:=zH hlen3
 have HGE:=zH hge3
 clear hlen3 hge3
 have MD4:=zH (MD2.out.trans ((if_neg HO.out).trans (if_neg (fun h=>Bool.noConfusion (hh.symm.trans h)))))
 have hkl:p1.2.code.length<p3.code.length:=by rw[HCl.out];have:=HGE.out;omega
 obtain⟨cg,ccap,hcv3,_,_⟩:=L3.out.cr.form (by omega)
 rw[hcv3]at hp3
 obtain⟨ci,hci⟩:=zl6 L3.out.asl p1.2.code.length (hkl)
 have hcr3:=L3.out.cr
 rw[hcv3]at hcr3
 have hcc3:w3.cell? ⟨cg,p1.2.code.length*14+13,none⟩=some (.int .i64 (ci.to:Int)):=by rw[hcr3.cellAt (p1.2.code.length*14+13) (by omega)];exact hci
 have hcf3:w3.frozen? ⟨cg,p1.2.code.length*14+13,none⟩=false:=hcr3.frozenAt (p1.2.code.length*14+13)
 have hcg3:cg<w3.heap.size:=(hcr3.lt cg rfl).2
 have LP3:=zH (L3.out.patch hcv3 (hkl))
 have hnl3:C.lb≠cg:=by
  obtain⟨cs,hgb⟩:=zba hcr3 (k:=cg) rfl
  exact L3.out.l.ne_ hgb (by decide)
 have hnp3:C.pb≠cg:=by
  obtain⟨cs,hgb⟩:=zba hcr3 (k:=cg) rfl
  exact L3.out.p.ne_ hgb (by decide)
 clear hci hcr3
 go_wp2_with fail
 go_region
 all_goals go_end0
 all_goals exact .inl ⟨_,_,MD4.out,rfl,rfl,V3,LP3.out.drew,W3.out.trans W2.out⟩
theorem zv7 (C:LC)(n:Nat)(w:World)(s:Lo)(V:LV)(sp b k m e fuel:Nat)(t:Stm)(x:In)(av bv ev:Value)(HB:zfr C n)(hV:V.lm=some b)(h:LE C w s V)(ht:TS C sp t)(T:TC C sp t av bv ev)(hxa:x.args=[])
  (hb1:za3 (fun j=>C.xs[j]?) t.body k m) (hb2:za3 (fun j=>C.xs[j]?) t.els m e) (hn:e-k≤n) (hf:n<fuel) (hcl:s.code.length+2+3*(e-k)≤90000) (ho:t.op≠14) (hh:t.has=true) :
  Calls Tryz.prog 295 #[.pointer (some ⟨C.lb,0,none⟩),.pointer (some ⟨sp,0,none⟩),insV x (.slice none 0 0)] w (zdf C V (zdm (zax C.xs fuel) s t x)):=by
 have o1:((t.op:Int)==14)=false:=zai (by omega)
 have HO:=zH ho
 clear ho
 obtain⟨M0,hM0⟩:∃ M,M=zdm (zax C.xs fuel) s t x:=⟨_,rfl⟩
 have HM0:=zH hM0
 rw[← hM0]
 have HT:=zH ht
 have T0:=zH T
 have H:=zH h
 have G0:=zH (Gs.start h hxa rfl)
 have l1:=hb1.le
 have l2:=hb2.le
 have HB1:=zH hb1
 have HB2:=zH hb2
 obtain⟨ba,bc,hbv⟩:=zat T.i
 obtain⟨ea,ec,hev⟩:=zat T.e
 subst hbv hev
 have MD0:=zH (hM0.trans (zdm.eq_1 (zax C.xs fuel) s t x))
 clear hM0 h ht T hb1 hb2
 obtain⟨hl0,hp0,hfl0,hfp0,hll0,hlp0,_⟩:=H.out.cells
 have hs0:=H.out.tc T0.out
 have hsl0:=Nat.lt_of_lt_of_le HT.out.lt H.out.bel.size
 go_enter Tryz.func295,Tryz.ntmps295
 go_wp2_with fail
 refine(zea C _ _ V t.y b hV G0.out.le (zal HT.out.ok.y)).mono ?_
 rintro e w1 (⟨p1,v,hr,rfl,rfl,hL,hch⟩ | ⟨f,g,hr,rfl,hfb,hle,hch⟩)
 rotate_left
 ·exact⟨rfl,(zci.fault (MD0.out.trans (by rw[hr];rfl)) hfb (Nat.le_trans G0.out.sz hle) (G0.out.bel.trans hch)).abs H.out⟩
 have MD1:=zH (MD0.out.trans (by rw[hr,zae]))
 have G1:=zH (G0.out.arg hV hL hch)
 have hc1:p1.2.code.length=s.code.length:=by rw[zeo hr]
 have HCl:=zH hc1
 clear hr hL hch hc1
 clear hl0 hp0 hfl0 hfp0 hll0 hlp0 hs0 hsl0
 obtain⟨hl1,hp1,hfl1,hfp1,hll1,hlp1,_⟩:=G1.out.le.cells
 have hs1:=G1.out.le.tc T0.out
 have hx1:=G1.out.cells
 have hxf1:=G1.out.xe.b.frozen
 have hxl1:=G1.out.xe.b.lt
 go_wp2_with fail
 refine zag (fun W=>Gs C w V w.heap.size W p1.2 { x with y:=p1.1 }) (G1.out.setY p1.1) ?_
 intro wz hGz
 have GZ:=zH hGz
 clear hGz hl1 hp1 hfl1 hfp1 hll1 hlp1 hs1 hx1 hxf1 hxl1
 refine(zde C _ _ V { x with y:=p1.1 } (.slice none 0 0) GZ.out.le ((HCl.out ▸ (by omega))) GZ.out.xe.a).mono ?_
 rintro e w2 ⟨rfl,V2,hL,hv⟩
 have L2:=zH hL
 have W2:=zH hv
 clear hL hv
 obtain⟨hl2,hp2,hfl2,hfp2,hll2,hlp2,_⟩:=L2.out.cells
 have hs2:=L2.out.tc T0.out
 have hsl2:=Nat.lt_of_lt_of_le HT.out.lt L2.out.bel.size
 go_wp2_with fail
 refine(HB _ _ V2 b _ _ _ _ fuel (W2.out.trans hV) L2.out T0.out.i HB1.out (by omega) (by omega) (znn HCl.out (by omega))).mono ?_
 rintro e w3 (⟨p3,v,hr,rfl,rfl,V3,hL,hv⟩ | ⟨f,g,hr,rfl,hfb,hle,hch⟩)
 rotate_left
 ·exact⟨rfl,.inr ⟨f,g,MD1.out.trans (by rw[hr,zc1]),rfl,hfb,hle,hch⟩⟩
 have MD2:=zH (MD1.out.trans (by rw[hr,zae]))
 have R3:=zH hr
 have L3:=zH hL
 have v3:=zH (hv.trans (W2.out.trans hV))
 have W3:=zH hv
 clear hr hL hv
 obtain⟨hl3,hp3,hfl3,hfp3,hll3,hlp3,_⟩:=L3.out.cells
 have hs3:=L3.out.tc T0.out
 have hsl3:=Nat.lt_of_lt_of_le HT.out.lt L3.out.bel.size
 clear hl2 hp2 hfl2 hfp2 hll2 hlp2 hs2 hsl2
 go_wp2_with fail
 have hlen3:=zf9 _ HB1.out R3.out
 have hge3:=zi0 _ _ _ _ R3.out
 rw[zb6,HCl.out]at hlen3 hge3
 have HLN:=zH hlen3
 have HGE:=zH hge3
 clear hlen3 hge3
 have MD4:=zH (MD2.out.trans ((if_neg HO.out).trans (if_pos hh)))
 refine(zde C _ _ V3 (zho 0) (.slice none 0 0) L3.out ((Nat.lt_of_le_of_lt HLN.out (by omega))) (World.ownsRow_nil _ _ _ _)).mono ?_
 rintro e w4 ⟨rfl,V4,hL,hv⟩
 have L4:=zH hL
 have W4:=zH hv
 clear hL hv
 obtain⟨hl4,hp4,hfl4,hfp4,hll4,hlp4,_⟩:=L4.out.cells
 have hs4:=L4.out.tc T0.out
 have hsl4:=Nat.lt_of_lt_of_le HT.out.lt L4.out.bel.size
 have hkl:p1.2.code.length<(p3.emit (zho 0)).code.length:=by rw[zb6,HCl.out];have:=HGE.out;omega
 obtain⟨cg,ccap,hcv4,_,_⟩:=L4.out.cr.form (by omega)
 rw[hcv4]at hp4
 obtain⟨ci,hci⟩:=zl6 L4.out.asl p1.2.code.length (hkl)
 have hcr4:=L4.out.cr
 rw[hcv4]at hcr4
 have hcc4:w4.cell? ⟨cg,p1.2.code.length*14+13,none⟩=some (.int .i64 (ci.to:Int)):=by rw[hcr4.cellAt (p1.2.code.length*14+13) (by omega)];exact hci
 have hcf4:w4.frozen? ⟨cg,p1.2.code.length*14+13,none⟩=false:=hcr4.frozenAt (p1.2.code.length*14+13)
 have hcg4:cg<w4.heap.size:=(hcr4.lt cg rfl).2
 have LP4:=zH (L4.out.patch hcv4 (hkl))
 have hnl4:C.lb≠cg:=by
  obtain⟨cs,hgb⟩:=zba hcr4 (k:=cg) rfl
  exact L4.out.l.ne_ hgb (by decide)
 have hnp4:C.pb≠cg:=by
  obtain⟨cs,hgb⟩:=zba hcr4 (k:=cg) rfl
  exact L4.out.p.ne_ hgb (by decide)
 clear hci hcr4
 clear hl3 hp3 hfl3 hfp3 hll3 hlp3 hs3 hsl3
 go_wp2_with fail
 go_region
 go_wp2_with fail
 refine zag (fun W=>LE C W ((p3.emit (zho 0)).patch p1.2.code.length) V4) LP4.out.drew ?_
 intro w5 hL5
 have L5:=zH hL5
 have HHC:=zH (show((p3.emit (zho 0)).patch p1.2.code.length).code.length=p3.code.length+1 by rw[zgs,zb6])
 clear hL5 hcc4 hcf4 hcg4 hnl4 hnp4 hkl hl4 hp4 hfl4 hfp4 hll4 hlp4 hs4 hsl4
 refine(HB _ _ V4 b _ _ _ _ fuel (W4.out.trans v3.out) L5.out T0.out.e HB2.out (by omega) (by omega) (Nat.le_trans (Nat.add_le_add_right (Nat.le_of_eq HHC.out) _) (kbound HLN.out l1 l2 hcl))).mono ?_
 rintro e w6 (⟨p6,v,hr,rfl,rfl,V6,hL,hv⟩ | ⟨f,g,hr,rfl,hfb,hle,hch⟩)
 rotate_left
 ·exact⟨rfl,.inr ⟨f,g,MD4.out.trans (by rw[hr,zc1]),rfl,hfb,hle,hch⟩⟩
 have MD5:=zH (MD4.out.trans (by rw[hr,zae]))
 have R6:=zH hr
 have L6:=zH hL
 have v6:=zH (hv.trans (W4.out.trans v3.out))
 have W6:=zH hv
 clear hr hL hv
 obtain⟨hl6,hp6,hfl6,hfp6,hll6,hlp6,_⟩:=L6.out.cells
 have hs6:=L6.out.tc T0.out
 have hsl6:=Nat.lt_of_lt_of_le HT.out.lt L6.out.bel.size
 have hge6:=zi0 _ _ _ _ R6.out
 rw[HHC.out]at hge6
 have hkl6:p3.code.length<p6.code.length:=hge6
 clear hge6
 obtain⟨cg,ccap,hcv6,_,_⟩:=L6.out.cr.form (by omega)
 rw[hcv6]at hp6
 obtain⟨ci,hci⟩:=zl6 L6.out.asl p3.code.length (hkl6)
 have hcr6:=L6.out.cr
 rw[hcv6]at hcr6
 have hcc6:w6.cell? ⟨cg,p3.code.length*14+13,none⟩=some (.int .i64 (ci.to:Int)):=by rw[hcr6.cellAt (p3.code.length*14+13) (by omega)];exact hci
 have hcf6:w6.frozen? ⟨cg,p3.code.length*14+13,none⟩=false:=hcr6.frozenAt (p3.code.length*14+13)
 have hcg6:cg<w6.heap.size:=(hcr6.lt cg rfl).2
 have LP6:=zH (L6.out.patch hcv6 (hkl6))
 have hnl6:C.lb≠cg:=by
  obtain⟨cs,hgb⟩:=zba hcr6 (k:=cg) rfl
  exact L6.out.l.ne_ hgb (by decide)
 have hnp6:C.pb≠cg:=by
  obtain⟨cs,hgb⟩:=zba hcr6 (k:=cg) rfl
  exact L6.out.p.ne_ hgb (by decide)
 clear hci hcr6
 go_wp2_with fail
 go_region
 all_goals go_wp2_with fail
 all_goals (first | go_end0 | refine bodyPost_ret (results_none rfl _ _ _) rfl ?_)
 all_goals exact .inl ⟨_,_,MD5.out,rfl,rfl,V6,LP6.out.drew,W6.out.trans (W4.out.trans (W3.out.trans W2.out))⟩
theorem zuq (C:LC)(n:Nat)(w:World)(s:Lo)(V:LV)(sp b k m e fuel:Nat)(t:Stm)(x:In)(av bv ev:Value)(HB:zfr C n)(hV:V.lm=some b)(h:LE C w s V)(ht:TS C sp t)(T:TC C sp t av bv ev)(hxa:x.args=[])
  (hb1:za3 (fun j=>C.xs[j]?) t.body k m) (hb2:za3 (fun j=>C.xs[j]?) t.els m e) (hn:e-k≤n) (hf:n<fuel) (hcl:s.code.length+2+3*(e-k)≤90000) :
  Calls Tryz.prog 295 #[.pointer (some ⟨C.lb,0,none⟩),.pointer (some ⟨sp,0,none⟩),insV x (.slice none 0 0)] w (zdf C V (zdm (zax C.xs fuel) s t x)):=by
 by_cases ho:t.op=14
 ·exact zx7 C n w s V sp b k m e fuel t x av bv ev HB hV h ht T hxa hb1 hb2 hn hf hcl ho
 ·cases hh:t.has
  ·exact zyf C n w s V sp b k m e fuel t x av bv ev HB hV h ht T hxa hb1 hb2 hn hf hcl ho hh
  ·exact zv7 C n w s V sp b k m e fuel t x av bv ev HB hV h ht T hxa hb1 hb2 hn hf hcl ho hh
end
section
open Go.RowKit Go.Maps
theorem LE.setAt {C:LC}{w:World}{s:Lo}{V:LV}{g cap k:Nat}(h:LE C w s V)(hav:V.av=.slice (some ⟨g,0,none⟩) s.at_.length cap)(n:Nat) :
  LE C (w.setCell ⟨g,k,none⟩ (.int .i64 (n:Int))) { s with at_:=s.at_.set k n } V:=by
 have har:=h.atr
 rw[hav]at har
 obtain⟨cs,hg⟩:=zba har (k:=g) rfl
 have hB:C.B≤g:=(har.lt g rfl).1
 have hne:∀ {j:Nat} {t:TypeId} {cs':Array Value},Blk w j t cs'→t≠3→j≠g:=fun hj ht=>hj.ne_ hg ht
 have hrow:∀ {B e size n':Nat} {v:Value} {ys:List Value},w.ownsRow B e size v n' ys→e≠3→(w.setCell ⟨g,k,none⟩ (.int .i64 (n:Int))).ownsRow B e size v n' ys:=fun hr he=>zaj hr hg he _ _
 have hmap:∀ {b:Nat} {m:NMap},NM w b m→NM (w.setCell ⟨g,k,none⟩ (.int .i64 (n:Int))) b m:=fun hm=>hm.far (hm.cellFar hg) _
 have hsep:∀ {v:Value} {n':Nat} {ys:List Value},w.ownsRow C.B 3 1 v n' ys→Sep V.av v→(w.setCell ⟨g,k,none⟩ (.int .i64 (n:Int))).ownsRow C.B 3 1 v n' ys:=fun hr hs =>
  ownsRow_setCell_other hr (by
   have hs':=hs g (by rw[hav];rfl)
   exact hs') _
 refine⟨h.c,h.bel.setCell hB _,h.l.far (hne h.l (by decide)) _,h.p.far (hne h.p (by decide)) _,hmap h.vm,hmap h.mm,hmap h.fm,fun b hb=>⟨hmap (h.lm b hb).1,(h.lm b hb).2⟩,hrow h.fr (by decide),hrow h.cr (by decide),h.asl,fun j a i ha hi=>hrow (h.ar j a i ha hi) (by decide),?_,hsep h.nr h.s1,hsep h.gr h.s2,h.s1,h.s2,h.s3,
  ⟨h.i.fl,h.i.f5,by rw[List.length_set];exact h.i.al,h.i.nl,h.i.gl,h.i.fok⟩⟩
 show World.ownsRow _ C.B _ 1 V.av (s.at_.set k n).length (zb5 (s.at_.set k n))
 rw[List.length_set,hav]
 have:=(har.stored k (.int .i64 (n:Int))).1
 unfold zb5 at this ⊢
 rw[List.map_set]
 exact this
def AtRel (C:LC)(s:Lo)(V:LV)(m:Nat)(n:Nat)(W:World):Prop :=
 ∃ (j:Nat) (V':LV),n=m-j∧j≤m∧s.at_.length+m≤48∧LE C W { s with at_:=s.at_++List.replicate j 0 } V'∧V'.lm=V.lm
theorem at_next {C:LC}{s:Lo}{V V':LV}{m j:Nat}{l:List Nat}{W:World}(hl:l=s.at_++List.replicate j 0)(hj:j<m)(h48:s.at_.length+m≤48)(h:LE C W { s with at_:=l++[0] } V')(hv:V'.lm=V.lm):AtRel C s V m (m-(j+1)) W:=by
 subst hl
 exact⟨j+1,V',rfl,hj,h48,by rw[List.replicate_succ',← List.append_assoc];exact h,hv⟩
theorem at_len {s:Lo}{j:Nat}:(s.at_++List.replicate j 0).length=s.at_.length+j:=by simp
theorem Gs.drew {C:LC}{w0 W:World}{V:LV}{xb:Nat}{s:Lo}{x:In}(h:Gs C w0 V xb W s x):Gs C w0 V xb W.drew s x:=⟨h.le.drew,h.xe.drew,h.bel.drew,h.sz,h.b0⟩
theorem ztg (s:Lo)(p a:Nat):(s.note p a).code=s.code:=rfl
def zjc (C:LC):Prop:=∀ (w:World) (s:Lo) (V:LV) (sp xb b:Nat) (t:Stm) (x:In),V.lm=some b→LE C w s V→TS C sp t→XE C w V xb x (.slice none 0 0)→x.args=[] →
 Calls Tryz.prog 298 #[.pointer (some ⟨C.lb,0,none⟩),.pointer (some ⟨sp,0,none⟩),.pointer (some ⟨xb,0,none⟩)] w (zf0 C w V xb (zbv s t x))
theorem text_no {a:ByteArray}(h:a.size=0):a.toList=[]:=by
 rw[ByteArray.toList_eq]
 apply List.eq_nil_of_length_eq_zero
 simpa using h
theorem text_yes {a:ByteArray}(h:a.size≠0):a.toList≠[]:=by
 rw[ByteArray.toList_eq]
 intro e
 apply h
 have:=congrArg List.length e
 simpa using this
end
end Go.Proofs.YtkmcihhndgdhpaaGreat
