/- LowO LowP LowQ LowR LowS LowT: parts of the walk. -/
import Derived.Test.YtkmcihhndgdhpaaGreatWC5
set_option maxRecDepth 100000
set_option maxHeartbeats 4000000
set_option linter.unusedSimpArgs false
set_option linter.unusedVariables false
namespace Go.Proofs.YtkmcihhndgdhpaaGreat
section
open Go.RowKit Go.Maps
attribute [local go_sem] zaq ptrV
theorem zav.get {w:World}{B:Nat}:∀ {bs:List Nat} {xs:List Stm} {k:Nat} {x:Stm},zav w B bs xs→xs[k]? = some x→∃ b,bs[k]? = some b∧zad w B b x
 | [],[],k,x,_,h=>by simp at h
 | [],_::_,_,_,h,_=>h.elim
 | _::_,[],_,_,h,_=>h.elim
 | b::bs,y::xs,0,x,h,hx=>by simp at hx;subst hx;exact⟨b,rfl,h.2.1⟩
 | b::bs,y::xs,k+1,x,h,hx=>by
  obtain⟨c,h1,h2⟩:=zav.get h.2.2 (k:=k) (x:=x) (by simpa using hx)
  exact⟨c,by simpa using h1,h2⟩
theorem tree_stm {C:LC}(hc:LCok C){k:Nat}{x:Stm}(hx:C.xs[k]? = some x):∃ dv sg scap sp,Blk C.w0 C.tb 218 #[dv,.slice (some ⟨sg,0,none⟩) C.xs.length scap]∧sg<C.B∧C.w0.cell? ⟨sg,k,none⟩=some (.pointer (some ⟨sp,0,none⟩))∧zad C.w0 C.B0 sp x∧k<C.xs.length:=by
 obtain⟨_,dv,sv,ptrs,ps,hb,hr,hs,_⟩:=hc.tree
 have hlt:k<C.xs.length:=(List.getElem?_eq_some_iff.1 hx).1
 have hl:=hs.length
 obtain⟨sp,h1,h2⟩:=hs.get hx
 obtain⟨sg,scap,hv,_,hlt2⟩:=hr.form (by omega)
 subst hv
 refine⟨dv,sg,scap,sp,hl ▸ hb,hlt2,?_,h2,hlt⟩
 rw[hr.cellAt k (by omega),List.getElem?_map,h1]
 rfl
theorem stmt_all (C:LC)(n:Nat)(w:World)(s:Lo)(V:LV)(sp b place m e fuel:Nat)(t:Stm)(HB:zfr C n)(HMO:zjc C)(hV:V.lm=some b)(h:LE C w s V)(hst:zad C.w0 C.B0 sp t)(hok:okStm t)
  (hb1:za3 (fun j=>C.xs[j]?) t.body (place+1) m) (hb2:za3 (fun j=>C.xs[j]?) t.els m e) (hn:e-(place+1)≤n) (hf:n<fuel) (hcl:s.code.length+2+3*(e-(place+1))≤90000) :
  Calls Tryz.prog 248 #[.pointer (some ⟨C.lb,0,none⟩),.pointer (some ⟨sp,0,none⟩),.int .i64 (place:Int)] w (zdf C V (zdt (zax C.xs fuel) s t place)):=by
 have ht:TS C sp t:=⟨hst,hok⟩
 obtain⟨av,bv,ev,h0,h1,h2,h3⟩:=hst
 have T:TC C sp t av bv ev:=⟨h0,h1,h2,h3⟩
 by_cases hp:48≤place
 ·exact zwt C n w s V sp b place m e fuel t av bv ev HB HMO hV h ht T hb1 hb2 hn hf hcl hp
 ·exact stmt_go C n w s V sp b place m e fuel t av bv ev HB HMO hV h ht T hb1 hb2 hn hf hcl (by omega)
def zn9 (C:LC)(V:LV)(M:Except Flt Lo)(ids:List Nat)(e n:Nat)(g:Nat)(iv:Value)(W:World):Prop :=
 ∃ (i k fuel:Nat) (s:Lo) (V1:LV),iv=.int .i64 i∧g=ids.length-i∧i≤ids.length∧za3 (fun j=>C.xs[j]?) (ids.drop i) k e∧e-k≤n∧e-k<fuel∧s.code.length+3*(e-k)≤90000∧LE C W s V1∧V1.lm=V.lm∧M=zax C.xs fuel s (ids.drop i)
theorem za3.len {f:Nat→Option Stm}{l:List Nat}{k e:Nat}(h:za3 f l k e):l.length≤e-k:=by
 induction h with
 | nil=>simp
 | cons _ _ h1 h2 h3 _ _ i3=>have:=h1.le;have:=h2.le;have:=h3.le;simp;omega
theorem zvd (C:LC)(n:Nat)(HB:∀ n',n'<n→zfr C n')(HMO:zjc C):zfr C n:=by
 intro w s V b bv ids k e fuel hV h hI hs hn hf hcl
 obtain⟨ba,bc,rfl⟩:=zat hI
 obtain⟨M0,hM0⟩:∃ M,M=zax C.xs fuel s ids:=⟨_,rfl⟩
 have START:=zH (show zn9 C V M0 ids e n ids.length (.int .i64 (0:Int)) w from⟨0,k,fuel,s,V,rfl,rfl,Nat.zero_le _,hs,hn,hf,hcl,h,rfl,hM0⟩)
 rw[← hM0]
 have HI:=zH hI
 have hlen:ids.length≤90000:=by have:=hs.len;omega
 clear h hs hM0 hI
 go_enter Tryz.func161,Tryz.ntmps161
 go_wp2_with fail
 go_loopg [8] ids.length (fun g v8 wr=>zn9 C V M0 ids e n g v8 wr)
 case atStart=>exact START.out
 case round =>
  obtain⟨i,k1,fuel1,s1,V1,rfl,hg,hi,hsp,hn1,hf1,hc1,hL,hv,hM⟩:=hrel
  have L1:=zH hL
  have v1:=zH hv
  have HM:=zH hM
  have HG:=zH hg
  have HSP:=zH hsp
  clear hL hv hM hg hsp
  by_cases hlt:i<ids.length
  ·obtain⟨j,hj⟩:∃ j,ids[i]? = some j:=⟨_,List.getElem?_eq_getElem hlt⟩
   have hdrop:ids.drop i=j::ids.drop (i+1):=by
    obtain⟨_,hj'⟩:=List.getElem?_eq_some_iff.1 hj
    rw[List.drop_eq_getElem_cons hlt,hj']
   have hs2:=HSP.out
   rw[hdrop]at hs2
   have hm2:=HM.out
   rw[hdrop]at hm2
   cases hs2 with
   | cons h0 ho b1 b2 b3 =>
    rename_i m n' x
    obtain⟨dv,sg,scap,sp,htb,hsgl,hsc,hst,hkx⟩:=tree_stm L1.out.c h0
    obtain⟨ig,icap,hiv,hib,hil⟩:=HI.out.form (by omega)
    injection hiv with hi1 hi2 hi3
    subst hi1
    have l1:=b1.le
    have l2:=b2.le
    have l3:=b3.le
    obtain⟨f0,hf0⟩:∃ f0,fuel1=f0+1:=⟨fuel1-1,by omega⟩
    have hic:wr.cell? ⟨ig,i,none⟩=some (.int .i64 (k1:Int)):=by
     rw[L1.out.bel.cell (p:=⟨ig,i,none⟩) hil,HI.out.cellAt i (by omega)]
     rw[List.getElem?_map,hj]
     rfl
    have hscw:wr.cell? ⟨sg,k1,none⟩=some (.pointer (some ⟨sp,0,none⟩)):=by rw[L1.out.bel.cell (p:=⟨sg,k1,none⟩) hsgl];exact hsc
    have htc:=(htb.below L1.out.bel htb.lt).cell
    have hk700:C.xs.length≤700:=L1.out.c.xl
    obtain⟨hl1,_,_,_,hll1,_,_⟩:=L1.out.cells
    have HST:=zH (stmt_all C (e-k1-1) wr s1 V1 sp b k1 m n' f0 x (HB _ (by omega)) HMO (v1.out.trans hV) L1.out hst ho b1 b2 (by omega) (by omega) (by omega))
    have HMs:=zH (show M0=zab (zdt (zax C.xs f0) s1 x k1) fun s2=>zax C.xs f0 s2 (ids.drop (i+1)) by
     rw[hm2,hf0,zax]
     rw[show C.xs[k1]? = some x from h0])
    have HLN:=zH (show ∀ s2,zdt (zax C.xs f0) s1 x k1=.ok s2→s2.code.length≤s1.code.length+2+3*(m-(k1+1))+3*(n'-m)from fun s2 hh=>zo8 (fun _ _ q=>zf9 f0 b1 q) (fun _ _ q=>zf9 f0 b2 q) hh)
    have B3:=zH b3
    clear htb hsc hst hm2 h0 ho b1 b2 b3 hdrop hj hi2 hi3
    go_wp2_with fail
    refine HST.out.mono ?_
    rintro e' w9 (⟨s9,v,hr,rfl,rfl,V9,hL9,hv9⟩ | ⟨f,g',hr,rfl,hfb,hle,hch⟩)
    rotate_left
    ·exact⟨rfl,.inr ⟨f,g',HMs.out.trans (by rw[hr,zc1]),rfl,hfb,hle,hch⟩⟩
    have hln:=HLN.out _ hr
    have REL:=zH (show zn9 C V M0 ids e n (ids.length-(i+1)) (.int .i64 ((i+1:Nat):Int)) w9 from⟨i+1,n',f0,s9,V9,rfl,rfl,hlt,B3.out,by omega,by omega,by omega,hL9,hv9.trans v1.out,HMs.out.trans (by rw[hr,zae])⟩)
    clear hr hL9 hv9 hln hl1 hll1 hic hscw htc
    go_wp2_with fail
    go_roundg (ids.length-(i+1))
    case measure=>have:=HG.out;omega
    case rel=>rw[show((i:Int)+1)=((i+1:Nat):Int) by omega];exact REL.out
  ·obtain⟨f0,hf0⟩:∃ f0,fuel1=f0+1:=⟨fuel1-1,by omega⟩
   have FIN:=zH (show zdf C V M0 (.returned (.tuple #[])) wr from .inl ⟨s1,_,HM.out.trans (by rw[List.drop_eq_nil_of_le (by omega),hf0,zax]),rfl,rfl,V1,L1.out,v1.out⟩)
   go_wp2_with fail
   first | go_end0 | refine bodyPost_ret (results_none rfl _ _ _) rfl ?_
   exact FIN.out
theorem zs1 (C:LC)(HMO:zjc C)(n:Nat):zfr C n:=by
 induction n using Nat.strongRecOn with
 | _ n ih=>exact zvd C n ih HMO
end
section
theorem zwc (C:LC):zjc C:=by
 intro w s V sp xb b t x hV h ht hx hxa
 by_cases h6:t.op=6
 ·by_cases hf:s.news.length=6
  ·exact zud C w s V sp xb b t x hV h ht hx hxa h6 hf
  ·exact more_new C w s V sp xb b t x hV h ht hx hxa h6 hf
 by_cases h7:t.op=7
 ·by_cases hf:s.gos.length=5
  ·exact zul C w s V sp xb b t x hV h ht hx hxa h7 hf
  ·exact more_go C w s V sp xb b t x hV h ht hx hxa h7 hf
 by_cases h11:t.op=11
 ·exact zwv C w s V sp xb b t x hV h ht hx hxa h11
 exact more_get C w s V sp xb b t x hV h ht hx hxa h6 h7 h11
theorem zxj (C:LC)(n:Nat):zfr C n:=zs1 C (zwc C) n
end
section
open Go.RowKit Go.Maps
def dclV (d:Dcl)(pv bv:Value):Value:=.agg (zar d pv bv).toArray
attribute [local go_sem] dclV zar
theorem zvq (C:LC)(w:World)(s:Lo)(V:LV)(d:Dcl)(pv bv:Value)(h:LE C w s V)(hx:okNm d.name)(h1:s.known d.name.text=true) :
  Calls Tryz.prog 111 #[.pointer (some ⟨C.lb,0,none⟩),dclV d pv bv] w (zcw C w V (zb3 s d)):=by
 have HK:=zH h1
 have HM:=zH (show zb3 s d=.error ⟨7,d.name.at_⟩ by unfold zb3;rw[if_pos h1])
 clear h1
 have H:=zH h
 have HX:=zH (zal hx)
 clear h hx
 go_enter Tryz.func111,Tryz.ntmps111
 go_wp2_with fail
 refine(zfs C _ s V d.name.text (H.out.alloc _) HX.out).mono ?_
 rintro e w1 ⟨rfl,hL1,hC1⟩
 rw[HK.out]
 have hb1:=(Blk.newAt (w:=w) (t:=223) (cs:=(zar d pv bv).toArray) rfl).chg hC1 (by simp) (by simp)
 have HC:=zH (((Chg.refl 0 [] [] w).alloc _).trans hC1)
 obtain⟨hl,hp,hfl,hfp,hll,hlp,_⟩:=hL1.cells
 have hbc:=hb1.cell
 have hbl:=hb1.lt
 have HL:=zH hL1
 have HB:=zH hb1
 clear hL1 hC1 hb1
 go_wp2_with fail
 refine(zdj _ _ _).mono ?_
 rintro e w4 ⟨rfl,rfl⟩
 exact⟨rfl,.fault HM.out (za1.new rfl) HC.out.size (((Chg.any (B:=C.B) (bs:=[]) HC.out).below H.out.bel.size).alloc (Nat.le_trans H.out.bel.size HC.out.size) _)⟩
theorem ztc (C:LC)(w:World)(s:Lo)(V:LV)(d:Dcl)(pv bv:Value)(h:LE C w s V)(hx:okNm d.name)(h1:s.known d.name.text=false)(hk:d.kind=118)(h3:s.vars.length=5) :
  Calls Tryz.prog 111 #[.pointer (some ⟨C.lb,0,none⟩),dclV d pv bv] w (zcw C w V (zb3 s d)):=by
 have HK:=zH h1
 have HM:=zH (show zb3 s d=.error ⟨8,d.name.at_⟩ by unfold zb3;rw[if_neg (by rw[h1];simp),if_pos hk,if_pos h3])
 have HKD:=zH hk
 have H3:=zH h3
 clear h1 hk h3
 have H:=zH h
 have HX:=zH (zal hx)
 clear h hx
 go_enter Tryz.func111,Tryz.ntmps111
 go_wp2_with fail
 refine(zfs C _ s V d.name.text (H.out.alloc _) HX.out).mono ?_
 rintro e w1 ⟨rfl,hL1,hC1⟩
 rw[HK.out]
 have hb1:=(Blk.newAt (w:=w) (t:=223) (cs:=(zar d pv bv).toArray) rfl).chg hC1 (by simp) (by simp)
 have HC:=zH (((Chg.refl 0 [] [] w).alloc _).trans hC1)
 obtain⟨hl,hp,hfl,hfp,hll,hlp,_⟩:=hL1.cells
 have hbc:=hb1.cell
 have hbl:=hb1.lt
 have HL:=zH hL1
 have HB:=zH hb1
 clear hL1 hC1 hb1
 have hk1:((d.kind.toNat:Int)==118)=true:=by rw[HKD.out];rfl
 have hlen:(Builtin.len_ #[212] 3 #[.map (some C.vb)]).run Tryz.prog w1=.ok (.int .i64 5) w1:=by
  have:=HL.out.vm.len (t:=212) (e:=3) (k:=9) Tryz.underlying212 3
  rw[H3.out]at this
  exact this
 go_wp2_with fail
 refine(zdj _ _ _).mono ?_
 rintro e w4 ⟨rfl,rfl⟩
 exact⟨rfl,.fault HM.out (za1.new rfl) HC.out.size (((Chg.any (B:=C.B) (bs:=[]) HC.out).below H.out.bel.size).alloc (Nat.le_trans H.out.bel.size HC.out.size) _)⟩
theorem zv5 (C:LC)(w:World)(s:Lo)(V:LV)(d:Dcl)(pv bv:Value)(h:LE C w s V)(hx:okNm d.name)(h1:s.known d.name.text=false)(hk:d.kind=109)(h3:s.muts.length=3) :
  Calls Tryz.prog 111 #[.pointer (some ⟨C.lb,0,none⟩),dclV d pv bv] w (zcw C w V (zb3 s d)):=by
 have HK:=zH h1
 have HM:=zH (show zb3 s d=.error ⟨8,d.name.at_⟩ by unfold zb3;rw[if_neg (by rw[h1];simp),if_neg (fun e:d.kind=118=>absurd (hk.symm.trans e) (by decide)),if_pos hk,if_pos h3])
 have HKD:=zH hk
 have H3:=zH h3
 clear h1 hk h3
 have H:=zH h
 have HX:=zH (zal hx)
 clear h hx
 go_enter Tryz.func111,Tryz.ntmps111
 go_wp2_with fail
 refine(zfs C _ s V d.name.text (H.out.alloc _) HX.out).mono ?_
 rintro e w1 ⟨rfl,hL1,hC1⟩
 rw[HK.out]
 have hb1:=(Blk.newAt (w:=w) (t:=223) (cs:=(zar d pv bv).toArray) rfl).chg hC1 (by simp) (by simp)
 have HC:=zH (((Chg.refl 0 [] [] w).alloc _).trans hC1)
 obtain⟨hl,hp,hfl,hfp,hll,hlp,_⟩:=hL1.cells
 have hbc:=hb1.cell
 have hbl:=hb1.lt
 have HL:=zH hL1
 have HB:=zH hb1
 clear hL1 hC1 hb1
 have hk1:((d.kind.toNat:Int)==118)=false:=by rw[HKD.out];rfl
 have hk2:((d.kind.toNat:Int)==109)=true:=by rw[HKD.out];rfl
 have hlen:(Builtin.len_ #[212] 3 #[.map (some C.mb)]).run Tryz.prog w1=.ok (.int .i64 3) w1:=by
  have:=HL.out.mm.len (t:=212) (e:=3) (k:=9) Tryz.underlying212 3
  rw[H3.out]at this
  exact this
 go_wp2_with fail
 refine(zdj _ _ _).mono ?_
 rintro e w4 ⟨rfl,rfl⟩
 exact⟨rfl,.fault HM.out (za1.new rfl) HC.out.size (((Chg.any (B:=C.B) (bs:=[]) HC.out).below H.out.bel.size).alloc (Nat.le_trans H.out.bel.size HC.out.size) _)⟩
theorem LE.vars {C:LC}{w w1:World}{s:Lo}{V:LV}{m:NMap}(h:LE C w s V)(hm:NM w1 C.vb m)(hg:w.grownBy w1 (some C.vb)):LE C w1 { s with vars:=m } V:=by
 have hbel:Below C.B C.w0 w1:=h.bel.grown hg h.bel.size (fun k e=>by cases e;exact h.c.vb)
 have hk:∀ k,Uses C V k→k≠C.vb→w1.heap[k]? = w.heap[k]? := fun k hu hne=>hg.block k (h.lt hu) (by intro e;injection e with e;exact hne e)
 have hcell:∀ {g:Nat} {t:TypeId} {cs:Array Value},Blk w g t cs→g≠C.vb:=fun hc e=>zaf.cellFar h.vm hc e.symm
 have hrow:∀ {e size n:Nat} {v:Value} {ys:List Value},w.ownsRow C.B e size v n ys→w1.ownsRow C.B e size v n ys:=by
  intro e size n v ys hr
  refine zcr hr fun k e=>hg.block k (hr.lt k e).2 ?_
  intro e'
  injection e' with e'
  obtain⟨cs,hh⟩:=zba hr e
  exact hcell hh e'
 have hV:Uses C V C.vb:=.inr (.inr (.inr (.inl rfl)))
 have hM:Uses C V C.mb:=.inr (.inr (.inr (.inr (.inl rfl))))
 have hF:Uses C V C.fb:=.inr (.inr (.inr (.inr (.inr (.inl rfl)))))
 exact⟨h.c,hbel,(hk _ (.inr (.inl rfl)) (hcell h.l)).trans h.l,(hk _ (.inr (.inr (.inl rfl))) (hcell h.p)).trans h.p,
  hm,h.mm.of_block (hk _ hM h.c.vm.symm),h.fm.of_block (hk _ hF h.c.vf.symm),
  fun b' hb'=>⟨(h.lm b' hb').1.of_block (hk _ (.inr (.inr (.inr (.inr (.inr (.inr (.inl hb'))))))) (by first | exact(h.lm b' hb').2.2.1 | exact(h.lm b' hb').2.2.2.1)),(h.lm b' hb').2⟩,
  hrow h.fr,hrow h.cr,h.asl,fun j a i ha hi=>hrow (h.ar j a i ha hi),hrow h.atr,hrow h.nr,hrow h.gr,h.s1,h.s2,h.s3,⟨h.i.fl,h.i.f5,h.i.al,h.i.nl,h.i.gl,h.i.fok⟩⟩
theorem LE.muts {C:LC}{w w1:World}{s:Lo}{V:LV}{m:NMap}(h:LE C w s V)(hm:NM w1 C.mb m)(hg:w.grownBy w1 (some C.mb)):LE C w1 { s with muts:=m } V:=by
 have hbel:Below C.B C.w0 w1:=h.bel.grown hg h.bel.size (fun k e=>by cases e;exact h.c.mb)
 have hk:∀ k,Uses C V k→k≠C.mb→w1.heap[k]? = w.heap[k]? := fun k hu hne=>hg.block k (h.lt hu) (by intro e;injection e with e;exact hne e)
 have hcell:∀ {g:Nat} {t:TypeId} {cs:Array Value},Blk w g t cs→g≠C.mb:=fun hc e=>zaf.cellFar h.mm hc e.symm
 have hrow:∀ {e size n:Nat} {v:Value} {ys:List Value},w.ownsRow C.B e size v n ys→w1.ownsRow C.B e size v n ys:=by
  intro e size n v ys hr
  refine zcr hr fun k e=>hg.block k (hr.lt k e).2 ?_
  intro e'
  injection e' with e'
  obtain⟨cs,hh⟩:=zba hr e
  exact hcell hh e'
 have hV:Uses C V C.vb:=.inr (.inr (.inr (.inl rfl)))
 have hM:Uses C V C.mb:=.inr (.inr (.inr (.inr (.inl rfl))))
 have hF:Uses C V C.fb:=.inr (.inr (.inr (.inr (.inr (.inl rfl)))))
 exact⟨h.c,hbel,(hk _ (.inr (.inl rfl)) (hcell h.l)).trans h.l,(hk _ (.inr (.inr (.inl rfl))) (hcell h.p)).trans h.p,
  h.vm.of_block (hk _ hV h.c.vm),hm,h.fm.of_block (hk _ hF h.c.mf.symm),
  fun b' hb'=>⟨(h.lm b' hb').1.of_block (hk _ (.inr (.inr (.inr (.inr (.inr (.inr (.inl hb'))))))) (by first | exact(h.lm b' hb').2.2.1 | exact(h.lm b' hb').2.2.2.1)),(h.lm b' hb').2⟩,
  hrow h.fr,hrow h.cr,h.asl,fun j a i ha hi=>hrow (h.ar j a i ha hi),hrow h.atr,hrow h.nr,hrow h.gr,h.s1,h.s2,h.s3,⟨h.i.fl,h.i.f5,h.i.al,h.i.nl,h.i.gl,h.i.fok⟩⟩
theorem LE.nvm {C:LC}{w:World}{s:Lo}{V:LV}(h:LE C w s V)(a b:Nat):LE C ((w.setCell ⟨C.pb,1,none⟩ (.int .i64 (a:Int))).setCell ⟨C.pb,2,none⟩ (.int .i64 (b:Int))) { s with nv:=a,nm:=b } V:=by
 have hB:=h.c.pb
 have hm:∀ {g:Nat} {m:NMap},NM w g m→NM ((w.setCell ⟨C.pb,1,none⟩ (.int .i64 (a:Int))).setCell ⟨C.pb,2,none⟩ (.int .i64 (b:Int))) g m:=fun hm=>(hm.far (hm.cellFar h.p) _).far (hm.cellFar h.p) _
 have hr:∀ {B e size n:Nat} {v:Value} {ys:List Value},w.ownsRow B e size v n ys→e≠211→((w.setCell ⟨C.pb,1,none⟩ (.int .i64 (a:Int))).setCell ⟨C.pb,2,none⟩ (.int .i64 (b:Int))).ownsRow B e size v n ys:=fun hr he=>zaj (zaj hr h.p he _ _) (h.p.set_ 1 _) he _ _
 exact⟨h.c,(h.bel.setCell hB _).setCell hB _,(h.l.far (h.l.ne_ h.p (by decide)) _).far (h.l.ne_ h.p (by decide)) _,((h.p.set_ 1 _).set_ 2 _).cast (by simp),
  hm h.vm,hm h.mm,hm h.fm,fun b hb=>⟨hm (h.lm b hb).1,(h.lm b hb).2⟩,hr h.fr (by decide),hr h.cr (by decide),h.asl,fun j a i ha hi=>hr (h.ar j a i ha hi) (by decide),hr h.atr (by decide),hr h.nr (by decide),hr h.gr (by decide),h.s1,h.s2,h.s3,⟨h.i.fl,h.i.f5,h.i.al,h.i.nl,h.i.gl,h.i.fok⟩⟩
end
section
open Go.RowKit Go.Maps
attribute [local go_sem] dclV zar
theorem nlen {w:World}{b:Nat}{m:NMap}(h:NM w b m):(Builtin.len_ #[212] 3 #[.map (some b)]).run Tryz.prog w=.ok (.int .i64 m.length) w :=
 h.len (t:=212) (e:=3) (k:=9) Tryz.underlying212 3
theorem zwi (C:LC)(w:World)(s:Lo)(V:LV)(d:Dcl)(pv bv:Value)(h:LE C w s V)(hx:okNm d.name)(h1:s.known d.name.text=false)(hk:d.kind=118)(h3:s.vars.length≠5) :
  Calls Tryz.prog 111 #[.pointer (some ⟨C.lb,0,none⟩),dclV d pv bv] w (zcw C w V (zb3 s d)):=by
 have HK:=zH h1
 obtain⟨s2,hs2⟩:∃ s2:Lo,s2={ s with vars:=mput s.vars d.name.text s.vars.length }:=⟨_,rfl⟩
 have HM:=zH (show zb3 s d=.ok { s2 with nv:=s2.vars.length,nm:=s2.muts.length } by subst hs2;unfold zb3;rw[if_neg (by rw[h1];simp),if_pos hk,if_neg h3])
 have HKD:=zH hk
 have h5:((s.vars.length:Int)==5)=false:=zai (by omega)
 clear h1 hk h3
 have H:=zH h
 have HX:=zH (zal hx)
 clear h hx
 go_enter Tryz.func111,Tryz.ntmps111
 go_wp2_with fail
 refine(zfs C _ s V d.name.text (H.out.alloc _) HX.out).mono ?_
 rintro e w1 ⟨rfl,hL1,hC1⟩
 rw[HK.out]
 have hb1:=(Blk.newAt (w:=w) (t:=223) (cs:=(zar d pv bv).toArray) rfl).chg hC1 (by simp) (by simp)
 have HC:=zH (((Chg.refl 0 [] [] w).alloc _).trans hC1)
 obtain⟨hl,hp,hfl,hfp,hll,hlp,_⟩:=hL1.cells
 have hbc:=hb1.cell
 have hbl:=hb1.lt
 have HL:=zH hL1
 have HB:=zH hb1
 clear hL1 hC1 hb1
 have hk1:((d.kind.toNat:Int)==118)=true:=by rw[HKD.out];rfl
 have hlen:=nlen HL.out.vm
 obtain⟨w2,hrun,hm2,hg2,hz2⟩:=HL.out.vm.update nkey Tryz.underlying212 HX.out s.vars.length
 have hL2:LE C w2 s2 V:=by subst hs2;exact HL.out.vars hm2 hg2
 have HL2:=zH hL2
 clear hm2 hg2 hz2 hL2 hs2
 go_wp2_with fail
 refine zbi (fun W=>LE C W s2 V) HL2.out ?_
 intro W hL
 clear hlen hl hp hfl hfp hll hlp hbc hbl hrun HL2 HL HB HC
 obtain⟨hl,hp,hfl,hfp,hll,hlp,hne⟩:=hL.cells
 have HL:=zH hL
 clear hL
 have hlenv:(Builtin.len_ #[212] 3 #[.map (some C.vb)]).run Tryz.prog W.drew=.ok (.int .i64 s2.vars.length) W.drew:=nlen HL.out.drew.vm
 have hlenm:(Builtin.len_ #[212] 3 #[.map (some C.mb)]).run Tryz.prog W.drew=.ok (.int .i64 s2.muts.length) W.drew:=nlen HL.out.drew.mm
 have hlenv2:∀ i u,(Builtin.len_ #[212] 3 #[.map (some C.vb)]).run Tryz.prog (W.drew.setCell ⟨C.pb,i,none⟩ u)=.ok (.int .i64 s2.vars.length) (W.drew.setCell ⟨C.pb,i,none⟩ u):=fun i u=>nlen (HL.out.drew.vm.far (HL.out.vm.cellFar HL.out.p) u)
 have hlenm2:∀ i u,(Builtin.len_ #[212] 3 #[.map (some C.mb)]).run Tryz.prog (W.drew.setCell ⟨C.pb,i,none⟩ u)=.ok (.int .i64 s2.muts.length) (W.drew.setCell ⟨C.pb,i,none⟩ u):=fun i u=>nlen (HL.out.drew.mm.far (HL.out.mm.cellFar HL.out.p) u)
 go_region
 refine bodyPost_ret (results_none rfl _ _ _) rfl ?_
 exact .inl ⟨_,_,HM.out,rfl,rfl,V,(HL.out.nvm _ _).drew,rfl⟩
theorem zv0 (C:LC)(w:World)(s:Lo)(V:LV)(d:Dcl)(pv bv:Value)(h:LE C w s V)(hx:okNm d.name)(h1:s.known d.name.text=false)(hk:d.kind=109)(h3:s.muts.length≠3) :
  Calls Tryz.prog 111 #[.pointer (some ⟨C.lb,0,none⟩),dclV d pv bv] w (zcw C w V (zb3 s d)):=by
 have HK:=zH h1
 obtain⟨s2,hs2⟩:∃ s2:Lo,s2={ s with muts:=mput s.muts d.name.text s.muts.length }:=⟨_,rfl⟩
 have HM:=zH (show zb3 s d=.ok { s2 with nv:=s2.vars.length,nm:=s2.muts.length } by subst hs2;unfold zb3;rw[if_neg (by rw[h1];simp),if_neg (fun e:d.kind=118=>absurd (hk.symm.trans e) (by decide)),if_pos hk,if_neg h3])
 have HKD:=zH hk
 have h5:((s.muts.length:Int)==3)=false:=zai (by omega)
 clear h1 hk h3
 have H:=zH h
 have HX:=zH (zal hx)
 clear h hx
 go_enter Tryz.func111,Tryz.ntmps111
 go_wp2_with fail
 refine(zfs C _ s V d.name.text (H.out.alloc _) HX.out).mono ?_
 rintro e w1 ⟨rfl,hL1,hC1⟩
 rw[HK.out]
 have hb1:=(Blk.newAt (w:=w) (t:=223) (cs:=(zar d pv bv).toArray) rfl).chg hC1 (by simp) (by simp)
 have HC:=zH (((Chg.refl 0 [] [] w).alloc _).trans hC1)
 obtain⟨hl,hp,hfl,hfp,hll,hlp,_⟩:=hL1.cells
 have hbc:=hb1.cell
 have hbl:=hb1.lt
 have HL:=zH hL1
 have HB:=zH hb1
 clear hL1 hC1 hb1
 have hk1:((d.kind.toNat:Int)==118)=false:=by rw[HKD.out];rfl
 have hk2:((d.kind.toNat:Int)==109)=true:=by rw[HKD.out];rfl
 have hlen:=nlen HL.out.mm
 obtain⟨w2,hrun,hm2,hg2,hz2⟩:=HL.out.mm.update nkey Tryz.underlying212 HX.out s.muts.length
 have hL2:LE C w2 s2 V:=by subst hs2;exact HL.out.muts hm2 hg2
 have HL2:=zH hL2
 clear hm2 hg2 hz2 hL2 hs2
 go_wp2_with fail
 refine zbi (fun W=>LE C W s2 V) HL2.out ?_
 intro W hL
 clear hlen hl hp hfl hfp hll hlp hbc hbl hrun HL2 HL HB HC
 obtain⟨hl,hp,hfl,hfp,hll,hlp,hne⟩:=hL.cells
 have HL:=zH hL
 clear hL
 have hlenv:(Builtin.len_ #[212] 3 #[.map (some C.vb)]).run Tryz.prog W.drew=.ok (.int .i64 s2.vars.length) W.drew:=nlen HL.out.drew.vm
 have hlenm:(Builtin.len_ #[212] 3 #[.map (some C.mb)]).run Tryz.prog W.drew=.ok (.int .i64 s2.muts.length) W.drew:=nlen HL.out.drew.mm
 have hlenv2:∀ i u,(Builtin.len_ #[212] 3 #[.map (some C.vb)]).run Tryz.prog (W.drew.setCell ⟨C.pb,i,none⟩ u)=.ok (.int .i64 s2.vars.length) (W.drew.setCell ⟨C.pb,i,none⟩ u):=fun i u=>nlen (HL.out.drew.vm.far (HL.out.vm.cellFar HL.out.p) u)
 have hlenm2:∀ i u,(Builtin.len_ #[212] 3 #[.map (some C.mb)]).run Tryz.prog (W.drew.setCell ⟨C.pb,i,none⟩ u)=.ok (.int .i64 s2.muts.length) (W.drew.setCell ⟨C.pb,i,none⟩ u):=fun i u=>nlen (HL.out.drew.mm.far (HL.out.mm.cellFar HL.out.p) u)
 go_region
 refine bodyPost_ret (results_none rfl _ _ _) rfl ?_
 exact .inl ⟨_,_,HM.out,rfl,rfl,V,(HL.out.nvm _ _).drew,rfl⟩
end
section
open Go.RowKit Go.Maps
attribute [local go_sem] dclV zar
theorem fun_step {C:LC}{w1 w2 w4:World}{s:Lo}{V:LV}{f:Fu}{x:ByteArray}{g cap:Nat}{o:Obj}(h1:LE C w1 s V)
  (hrow:w2.ownsRow C.B 228 5 (.slice (some ⟨g,0,none⟩) (s.fs.length+1) cap) (s.fs.length+1) (s.fs.flatMap zcb++zcb f)) (hg:(w1.drew.alloc o).grownBy w2 V.fsv.ownBlock)
  (hm4:NM w4 C.fb (mput s.funs x s.funs.length)) (hg4:(w2.setCell ⟨C.pb,3,none⟩ (.slice (some ⟨g,0,none⟩) (s.fs.length+1) cap)).grownBy w4 (some C.fb)) (hx:mget s.funs x=none) (h5:s.funs.length≠5) :
  ∃ V',LE C w4 { s with fs:=s.fs++[f],funs:=mput s.funs x s.funs.length } V'∧V'.lm=V.lm:=by
 have hd:=(h1.drew).alloc o
 have hb2:Below C.B C.w0 w2:=hd.bel.grown hg hd.bel.size fun k e=>(hd.fr.lt k e).1
 have hp2:Blk w2 C.pb 211 _:=hd.p.append hd.fr hg (by decide)
 obtain⟨x1,x2,x3,x4,x5,x6⟩:=hd.grown (w3:=w2.setCell ⟨C.pb,3,none⟩ (.slice (some ⟨g,0,none⟩) (s.fs.length+1) cap)) hd.fr (fun k hk h1 h2=>(Below.heap_setCell _ _ _ _ h1).trans (hg.block k hk h2)) (by decide)
 have x7:=hp2.set_ 3 (.slice (some ⟨g,0,none⟩) (s.fs.length+1) cap)
 have x8:=zaj hrow hp2 (by decide) 3 (.slice (some ⟨g,0,none⟩) (s.fs.length+1) cap)
 have hb3:=hb2.setCell (p:=⟨C.pb,3,none⟩) hd.c.pb (.slice (some ⟨g,0,none⟩) (s.fs.length+1) cap)
 obtain⟨w3,hw3⟩:∃ w3,w3=w2.setCell ⟨C.pb,3,none⟩ (.slice (some ⟨g,0,none⟩) (s.fs.length+1) cap):=⟨_,rfl⟩
 rw[← hw3]at x1 x2 x3 x4 x5 x6 x7 x8 hg4 hb3
 have hk:∀ k,k<w3.heap.size→k≠C.fb→w4.heap[k]? = w3.heap[k]? := fun k hu hne=>hg4.block k hu (by intro e;injection e with e;exact hne e)
 have hcell:∀ {g:Nat} {t:TypeId} {cs:Array Value},Blk w3 g t cs→g≠C.fb:=fun hc e=>zaf.cellFar x4 hc e.symm
 have hblk:∀ {g:Nat} {t:TypeId} {cs:Array Value},Blk w3 g t cs→Blk w4 g t cs:=fun hc=>(hk _ hc.lt (hcell hc)).trans hc
 have hr:∀ {B e size n:Nat} {v:Value} {ys:List Value},w3.ownsRow B e size v n ys→w4.ownsRow B e size v n ys:=by
  intro B e size n v ys hr
  refine zcr hr fun k e=>hk k (hr.lt k e).2 ?_
  obtain⟨cs,hh⟩:=zba hr e
  exact hcell hh
 have hlen:(mput s.funs x s.funs.length).length=s.funs.length+1:=by rw[zma,if_pos hx]
 have hi:=hd.i
 refine⟨{ V with fsv:=.slice (some ⟨g,0,none⟩) (s.fs.length+1) cap },⟨hd.c,hb3.grown hg4 hb3.size (fun k e=>by cases e;exact hd.c.fb),hblk x1,(hblk x7).cast (by simp),x2.of_block (hk _ x2.lt hd.c.vf),x3.of_block (hk _ x3.lt hd.c.mf),hm4,
  fun b hb=>⟨(x5 b hb).1.of_block (hk _ (x5 b hb).1.lt (x5 b hb).2.2.2.2),(x5 b hb).2⟩,?_,hr (x6 hd.cr (.inl (by decide)) (by decide)),hd.asl,fun j a i ha hj=>hr (x6 (hd.ar j a i ha hj) (.inl (by decide)) (by decide)),
  hr (x6 hd.atr (.inl (by decide)) (by decide)),hr (x6 hd.nr (.inl (by decide)) (by decide)),hr (x6 hd.gr (.inl (by decide)) (by decide)),hd.s1,hd.s2,hd.s3,⟨?_,?_,hi.al,hi.nl,hi.gl,?_⟩⟩,rfl⟩
 ·show World.ownsRow _ C.B _ 5 _ (s.fs++[f]).length ((s.fs++[f]).flatMap zcb)
  rw[List.length_append,List.flatMap_append,List.flatMap_singleton]
  exact hr x8
 ·show(s.fs++[f]).length=_
  rw[List.length_append,hlen,hi.fl]
  rfl
 ·show(mput s.funs x s.funs.length).length≤5
  rw[hlen]
  have:=hi.f5
  omega
 ·intro p hp
  show p.2<(s.fs++[f]).length
  rw[List.length_append]
  rcases zg6 hp with rfl | hp
  ·show s.funs.length<_
   rw[hi.fl]
   exact Nat.lt_succ_self _
  ·exact Nat.lt_succ_of_lt (hi.fok p hp)
end
section
open Go.RowKit Go.Maps
attribute [local go_sem] dclV zar
set_option linter.unusedSimpArgs false
theorem zt3 (C:LC)(w:World)(s:Lo)(V:LV)(d:Dcl)(pv bv:Value)(h:LE C w s V)(hx:okNm d.name)(pa:Option Addr)(pc:Nat)(hpv:pv=.slice pa d.params.length pc)(h1:s.known d.name.text=false)(hk:d.kind=102) :
  Calls Tryz.prog 111 #[.pointer (some ⟨C.lb,0,none⟩),dclV d pv bv] w (zcw C w V (zb3 s d)):=by
 have HK:=zH h1
 have HM:=zH (show zb3 s d=(if s.funs.length=5 then .error ⟨8,d.name.at_⟩else .ok { s with funs:=mput s.funs d.name.text s.funs.length,fs:=s.fs++[{ name:=d.name.text,params:=d.params.length }],nv:=s.vars.length,nm:=s.muts.length }) by
  unfold zb3;rw[if_neg (by rw[h1];simp),if_neg (fun e:d.kind=118=>absurd (hk.symm.trans e) (by decide)),if_neg (fun e:d.kind=109=>absurd (hk.symm.trans e) (by decide))])
 have HKD:=zH hk
 subst hpv
 clear h1 hk
 have H:=zH h
 have HX:=zH (zal hx)
 clear h hx
 go_enter Tryz.func111,Tryz.ntmps111
 go_wp2_with fail
 refine(zfs C _ s V d.name.text (H.out.alloc _) HX.out).mono ?_
 rintro e w1 ⟨rfl,hL1,hC1⟩
 rw[HK.out]
 have hb1:=(Blk.newAt (w:=w) (t:=223) (cs:=(zar d (Value.slice pa d.params.length pc) bv).toArray) rfl).chg hC1 (by simp) (by simp)
 have HC:=zH (((Chg.refl 0 [] [] w).alloc _).trans hC1)
 obtain⟨hl,hp,hfl,hfp,hll,hlp,_⟩:=hL1.cells
 have hbc:=hb1.cell
 have hbl:=hb1.lt
 have HL:=zH hL1
 have HB:=zH hb1
 clear hL1 hC1 hb1
 have hk1:((d.kind.toNat:Int)==118)=false:=by rw[HKD.out];rfl
 have hk2:((d.kind.toNat:Int)==109)=false:=by rw[HKD.out];rfl
 obtain⟨fa,fc,hfv⟩:=zat HL.out.fr
 rw[hfv]at hp
 have HFV:=zH hfv
 clear hfv
 go_wp2_with fail
 refine zh0 22 (fun w'=>w'.cell? ⟨C.lb,0,none⟩=some (.pointer (some ⟨C.pb,0,none⟩))∧w'.cell? ⟨C.pb,3,none⟩=some (.slice fa s.fs.length fc)∧∀ j,w'.cell? ⟨w.heap.size,j,none⟩=(zar d (.slice pa d.params.length pc) bv).toArray[j]?) (by kernel_rfl) rfl rfl (by kernel_rfl) ?_
 simp only[List.take_succ_cons,List.take_zero]
 have hHeld:w1.drew.cell? ⟨C.lb,0,none⟩=some (.pointer (some ⟨C.pb,0,none⟩))∧w1.drew.cell? ⟨C.pb,3,none⟩=some (.slice fa s.fs.length fc)∧∀ j,w1.drew.cell? ⟨w.heap.size,j,none⟩=(zar d (.slice pa d.params.length pc) bv).toArray[j]? := ⟨by simp[hl],by simp[hp],hbc⟩
 iterate 18(refine tk 0 rfl (by kernel_rfl) (fun _ _ _ h=>h) hHeld (fun w hSw=>by go_simp;try with_reducible rfl) (by simp only[pA,pB,pC,pD,pE,pF,pG,pH];exact rfl) ?_)
 clear hHeld
 refine rdy 18 (by kernel_rfl) rfl fun K hK=>?_
 go_simp
 have hf5:s.fs.length≤5:=by rw[HL.out.i.fl];exact HL.out.i.f5
 have hBW:=zH HL.out.bel.size
 have HU:=zH (H.out.fresh (k:=w.heap.size) (Nat.le_refl _))
 refine hK.out _ _ ⟨by simp[World.cell?_alloc_some,hl],by simp[World.cell?_alloc_some,hp],(Blk.alloc HB.out _).cell⟩ (fun hHeld=>?_)
 clear hK K
 refine rdy 19 (by kernel_rfl) rfl fun K hK=>?_
 refine zc5 tyFu rfl _ _ rfl C.B _ s.fs.length (s.fs.flatMap zcb) w1.heap.size _ _ ((za2 (by have:=HL.out.fr;rw[HFV.out]at this;exact this)).alloc _) (Blk.newAt (by simp)) rfl rfl rfl (by simp[Value.oneCell']) (by omega) (Nat.le_trans hBW.out (by simp)) ?_
 intro g cap w2 hrow2 hg2 hat2
 have hg3:=hg2
 rw[← HFV.out]at hg3
 have hp2:=(Blk.append ((HL.out.drew.alloc _).p) ((za2 HL.out.fr).alloc _) hg3 (by decide))
 have hpp2:=hp2.cell
 have hfp2:=hp2.frozen
 rw[HFV.out]at hpp2
 have hl2:=(Blk.append ((HL.out.drew.alloc _).l) ((za2 HL.out.fr).alloc _) hg3 (by decide))
 have hll2:=hl2.cell
 have hbx2:=(Blk.alloc (Blk.drew HB.out) _).grown hg3 (fun e=>HU.out (.inr (.inr (.inr (.inr (.inr (.inr (.inr (.inl e.symm)))))))))
 have HS:=zH hbx2
 have HROW:=zH hrow2
 have HP2:=zH hp2
 have HG3:=zH hg3
 clear hp2 hl2 hrow2 hg2 hat2 hHeld hg3 hbx2
 refine hK.out _ _ ⟨by simp[hll2],by simp[hpp2],HS.out.cell⟩ (fun hHeld=>?_)
 clear hK K
 iterate 2(refine tk 20 rfl (by kernel_rfl) (fun _ _ _ h=>h) hHeld (fun w hSw=>by go_simp;try with_reducible rfl) (by simp only[pA,pB,pC,pD,pE,pF,pG,pH];exact rfl) ?_)
 refine lst (by kernel_rfl) rfl fun K hK=>?_
 go_simp
 refine hK _ _ ?_
 clear hK K hHeld
 obtain⟨x1,_,_,x4,_,_⟩:=(HL.out.drew.alloc _).grown (w3:=w2.setCell ⟨C.pb,3,none⟩ (.slice (some ⟨g,0,none⟩) (s.fs.length+1) cap)) (HL.out.drew.alloc _).fr (fun k hk h1 h2=>(Below.heap_setCell _ _ _ _ h1).trans (HG3.out.block k hk h2)) (by decide)
 have x9:=HS.out.far (p:=⟨C.pb,3,none⟩) (HS.out.ne_ HP2.out (by decide)) (.slice (some ⟨g,0,none⟩) (s.fs.length+1) cap)
 have hbw:=((Chg.any (B:=C.B) (bs:=[]) HC.out).below H.out.bel.size)
 have hbw2:=zH (((hbw.trans ((((Below.refl C.B w1).drew).alloc hBW.out _).grown HG3.out (Nat.le_trans hBW.out (by simp)) (fun k e=>(HL.out.fr.lt k e).1)))).setCell (p:=⟨C.pb,3,none⟩) HL.out.c.pb (.slice (some ⟨g,0,none⟩) (s.fs.length+1) cap))
 have hl3:=x1.cell
 have hb3:=x9.cell
 have hlen:=nlen x4
 clear hbw hl hp hfl hfp hll hlp hbc hbl hll2 hpp2 hfp2
 by_cases h5:s.funs.length=5
 ·have h5':((s.funs.length:Int)==5)=true:=by rw[h5];rfl
  have HM2:=zH (HM.out.trans (if_pos h5))
  clear h5
  go_wp2_with fail
  refine(zdj _ _ _).mono ?_
  rintro e w4 ⟨rfl,rfl⟩
  exact⟨rfl,.fault HM2.out (za1.new rfl) hbw2.out.size (hbw2.out.alloc (Nat.le_trans H.out.bel.size hbw2.out.size) _)⟩
 ·have h5':((s.funs.length:Int)==5)=false:=zai (by omega)
  have HM2:=zH (HM.out.trans (if_neg h5))
  have hx0:mget s.funs d.name.text=none:=by
   have hkn:=HK.out
   unfold Lo.known at hkn
   cases hq:mget s.funs d.name.text with
   | none=>rfl
   | some q=>rw[hq]at hkn;simp at hkn
  obtain⟨w4,hrun,hm4,hg4,hz4⟩:=x4.update nkey Tryz.underlying212 HX.out s.funs.length
  obtain⟨V',hL4,hv4⟩:=fun_step (f:={ name:=d.name.text,params:=d.params.length }) HL.out HROW.out HG3.out hm4 hg4 hx0 h5
  obtain⟨s2,hs2⟩:∃ s2:Lo,s2={ s with fs:=s.fs++[{ name:=d.name.text,params:=d.params.length }],funs:=mput s.funs d.name.text s.funs.length }:=⟨_,rfl⟩
  have HM3:=zH (show zb3 s d=.ok { s2 with nv:=s2.vars.length,nm:=s2.muts.length } by rw[HM2.out,hs2])
  rw[← hs2]at hL4
  have HL4:=zH hL4
  have HV4:=zH hv4
  clear hm4 hg4 hz4 hL4 hv4 hx0 x4 hs2 h5
  go_wp2_with fail
  refine zbi (fun W=>LE C W s2 V') HL4.out ?_
  intro W hL
  clear hlen hrun HL4 HL HB HC x1 x9 hl3 hb3
  obtain⟨hl,hp,hfl,hfp,hll,hlp,hne⟩:=hL.cells
  have HL:=zH hL
  clear hL
  have hlenv:(Builtin.len_ #[212] 3 #[.map (some C.vb)]).run Tryz.prog W.drew=.ok (.int .i64 s2.vars.length) W.drew:=nlen HL.out.drew.vm
  have hlenm:(Builtin.len_ #[212] 3 #[.map (some C.mb)]).run Tryz.prog W.drew=.ok (.int .i64 s2.muts.length) W.drew:=nlen HL.out.drew.mm
  have hlenv2:∀ i u,(Builtin.len_ #[212] 3 #[.map (some C.vb)]).run Tryz.prog (W.drew.setCell ⟨C.pb,i,none⟩ u)=.ok (.int .i64 s2.vars.length) (W.drew.setCell ⟨C.pb,i,none⟩ u):=fun i u=>nlen (HL.out.drew.vm.far (HL.out.vm.cellFar HL.out.p) u)
  have hlenm2:∀ i u,(Builtin.len_ #[212] 3 #[.map (some C.mb)]).run Tryz.prog (W.drew.setCell ⟨C.pb,i,none⟩ u)=.ok (.int .i64 s2.muts.length) (W.drew.setCell ⟨C.pb,i,none⟩ u):=fun i u=>nlen (HL.out.drew.mm.far (HL.out.mm.cellFar HL.out.p) u)
  go_region
  refine bodyPost_ret (results_none rfl _ _ _) rfl ?_
  exact .inl ⟨_,_,HM3.out,rfl,rfl,V',(HL.out.nvm _ _).drew,HV4.out⟩
theorem zvy (C:LC)(w:World)(s:Lo)(V:LV)(d:Dcl)(pv bv:Value)(h:LE C w s V)(hx:okNm d.name)(pa:Option Addr)(pc:Nat)(hpv:pv=.slice pa d.params.length pc)(hk:d.kind=118∨d.kind=109∨d.kind=102) :
  Calls Tryz.prog 111 #[.pointer (some ⟨C.lb,0,none⟩),dclV d pv bv] w (zcw C w V (zb3 s d)):=by
 cases h1:s.known d.name.text
 ·rcases hk with hk | hk | hk
  ·by_cases h3:s.vars.length=5
   ·exact ztc C w s V d pv bv h hx h1 hk h3
   ·exact zwi C w s V d pv bv h hx h1 hk h3
  ·by_cases h3:s.muts.length=3
   ·exact zv5 C w s V d pv bv h hx h1 hk h3
   ·exact zv0 C w s V d pv bv h hx h1 hk h3
  ·exact zt3 C w s V d pv bv h hx pa pc hpv h1 hk
 ·exact zvq C w s V d pv bv h hx h1
end
end Go.Proofs.YtkmcihhndgdhpaaGreat
