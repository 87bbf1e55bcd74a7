/- PtsC PtsD PtsF: parts of the walk. -/
import Derived.Test.YtkmcihhndgdhpaaGreatWA7
set_option maxRecDepth 100000
set_option maxHeartbeats 4000000
set_option linter.unusedSimpArgs false
set_option linter.unusedVariables false
namespace Go.Proofs.YtkmcihhndgdhpaaGreat
section
open Go.RowKit Go.Maps Go.ChangeMaps
set_option linter.unusedSimpArgs false
section
variable {w w':World} {b:Nat} {S:Nd→Bool}
theorem NkE.alloc (h:NkE w b S)(o:Obj):NkE (w.alloc o) b S:=h.of_block (Below.heap_alloc w o b h.lt)
theorem NkE.look (h:NkE w b S){n:Nd}(hn:NdOk n):(Instr.lookup 429 (.map (some b)) (ndV n) false).run Tryz.prog w=.ok (.int .i64 (if S n then 1 else 0)) w:=by
 obtain⟨m,h1,h2,h3⟩:=h
 have:=h1.lookup (t:=429) (e:=3) ze5 Tryz.underlying429 (z:=.int .i64 0) (Tryz.zeroValue3 w) hn false
 rw[this]
 have h4:=h3 n
 cases hg:mget m n with
 | none=>rw[hg]at h4;rw[← h4];rfl
 | some u=>rw[hg]at h4;have h5:=h2 _ (zfi hg);simp only at h5;rw[← h4,h5];rfl
end
theorem zrl (w:World)(b:Nat)(S:Nd→Bool)(n:Nd)(h:NkE w b S)(hn:NdOk n) :
  Calls Tryz.prog 309 #[.map (some b),ndV n] w fun e w'=>e=.returned (.bool (S n))∧w'=w.alloc (.cells #[.int .u8 n.k,.int .i64 n.a,.int .i64 n.b] 419):=by
 have hl:=(h.alloc (.cells #[.int .u8 n.k,.int .i64 n.a,.int .i64 n.b] 419)).look hn
 clear h
 cases hS:S n
 all_goals
  rw[hS]at hl
  clear hS
  simp only[Bool.false_eq_true,if_true,if_false]at hl
  go_enter Tryz.func309,Tryz.ntmps309
  go_wp2_with fail
  go_ret
  exact⟨rfl,rfl⟩
structure PtAt (B fb:Nat)(wf:World)(V:PtV)(st:PS)(out:Nat)(w:World):Prop where
 on:Below B wf w
 bs:B≤w.heap.size
 m:∃ mh mt mu,PtM w B fb V st out mh mt mu
theorem zvx {w w1 w2:World}{row:Option Nat}(h:Below w.heap.size w w1)(h':w1.grownBy w2 row):w.grownBy w2 row :=
 ⟨h'.os.trans h.os,h'.tape.trans h.tape,h'.output.trans h.output,Nat.le_trans h.size h'.size,fun k hk hr=>(h'.block k (Nat.lt_of_lt_of_le hk h.size) hr).trans (h.block k hk)⟩
def zk9 (B fb:Nat)(wf:World)(V:PtV)(st:PS)(out:Nat)(n:Nd)(o t:Nat)(w:World)(e:Ending)(w':World):Prop :=
 e=.returned (.bool (zdn st n o t))∧PtAt B fb wf V (zcj st n o t) out w'∧w.grownBy w' (some V.hb)
theorem zob (B fb:Nat)(wf:World)(V:PtV)(st:PS)(out:Nat)(n:Nd)(o t:Nat)(w:World)(h:PtAt B fb wf V st out w)(hn:NdOk n)(ho:o<2 ^ 48)(ht:t<2 ^ 48) :
  Calls Tryz.prog 280 #[.pointer (some ⟨V.sb,0,none⟩),.agg #[.int .u8 n.k,.int .i64 n.a,.int .i64 n.b],.agg #[zaa o,zaa t]] w (zk9 B fb wf V st out n o t w):=by
 obtain⟨hon,hbs,mh,mt,mu,hm⟩:=h
 have hsc:=hm.s.cell
 unfold zeh at hsc
 have hsl:=hm.s.lt
 have HM:=zH hm
 have HON:=zH hon
 have HN:=zH hn
 clear hm hon hn
 go_enter Tryz.func280,Tryz.ntmps280
 go_wp2_with fail
 have hbn:Blk ((w.alloc (.cells #[.int .u8 n.k,.int .i64 n.a,.int .i64 n.b] 419)).alloc (.cells #[zaa o,zaa t] 424)) w.heap.size 419 #[.int .u8 n.k,.int .i64 n.a,.int .i64 n.b]:=(Blk.newAt rfl).alloc _
 have hbh:Blk ((w.alloc (.cells #[.int .u8 n.k,.int .i64 n.a,.int .i64 n.b] 419)).alloc (.cells #[zaa o,zaa t] 424)) (w.heap.size+1) 424 #[zaa o,zaa t]:=Blk.newAt (by simp)
 have hbe:Below w.heap.size w ((w.alloc (.cells #[.int .u8 n.k,.int .i64 n.a,.int .i64 n.b] 419)).alloc (.cells #[zaa o,zaa t] 424)):=((Below.refl _ _).alloc (Nat.le_refl _) _).alloc (by simp) _
 generalize hW:((w.alloc (.cells #[.int .u8 n.k,.int .i64 n.a,.int .i64 n.b] 419)).alloc (.cells #[zaa o,zaa t] 424))=w1 at hbn hbh hbe ⊢
 clear hW hsc hsl
 have hgh:∀ W',Below w1.heap.size w1 W'→PtM W' B fb V st out mh mt mu:=fun W' hb=>HM.out.kp ((PtKp.below hbe (Nat.le_refl _)).trans (PtKp.below hb (Nat.le_refl _)))
 have HS:=zH (show ∀ W',Below w1.heap.size w1 W'→(∀ i,W'.cell? ⟨V.sb,i,none⟩=#[.pointer (some ⟨fb,0,none⟩),.map (some V.hb),.map (some V.tb),.map (some V.ub),zaa out][i]?)∧(∀ i,W'.cell? ⟨w.heap.size,i,none⟩=#[.int .u8 n.k,.int .i64 n.a,.int .i64 n.b][i]?) ∧
   (Instr.lookup 378 (.map (some V.hb)) (.agg #[.int .u8 n.k,.int .i64 n.a,.int .i64 n.b]) false).run Tryz.prog W'=.ok (.agg #[zaa (st.ho n),zaa (st.ht n)]) W' from fun W' hb=>by
  refine⟨(hgh W' hb).s.cell,(hbn.below hb hbn.lt).cell,?_⟩
  have hl:=(hgh W' hb).h.lookup (t:=378) (e:=424) ze5 Tryz.underlying378 (z:=.agg #[zaa 0,zaa 0]) (Tryz.zeroValue424 W') HN.out false
  have hv:=HM.out.hv n
  rw[hl]
  cases hg:mget mh n with
  | none=>rw[hg]at hv;simp only[Option.getD_none,Prod.mk.injEq]at hv;rw[← hv.1,← hv.2];rfl
  | some p=>rw[hg]at hv;simp only[Option.getD_some]at hv;rw[hv];rfl)
 refine zah 7 (fun W'=>(∀ i,W'.cell? ⟨V.sb,i,none⟩=#[.pointer (some ⟨fb,0,none⟩),.map (some V.hb),.map (some V.tb),.map (some V.ub),zaa out][i]?)∧(∀ i,W'.cell? ⟨w.heap.size,i,none⟩=#[.int .u8 n.k,.int .i64 n.a,.int .i64 n.b][i]?) ∧
   (Instr.lookup 378 (.map (some V.hb)) (.agg #[.int .u8 n.k,.int .i64 n.a,.int .i64 n.b]) false).run Tryz.prog W'=.ok (.agg #[zaa (st.ho n),zaa (st.ht n)]) W') (by kernel_rfl) rfl rfl (by kernel_rfl) ?_
 simp only[List.take_succ_cons,List.take_zero]
 have hHeld:=HS.out _ (Below.refl _ w1).drew
 iterate 6(refine tk 0 rfl (by kernel_rfl) (fun _ _ _ h=>h) hHeld (fun w hSw=>by go_simp;try with_reducible rfl) (by simp only[pA,pB,pC,pD,pE,pF,pG,pH];exact rfl) ?_)
 refine rdy 6 (by kernel_rfl) rfl fun K hK=>?_
 go_simp
 have hbe2:Below w1.heap.size w1 (w1.alloc (.cells #[zaa 0,zaa 0] 424)).drew:=((Below.refl _ _).alloc (Nat.le_refl _) _).drew
 have hbc:Blk (w1.alloc (.cells #[zaa 0,zaa 0] 424)).drew w1.heap.size 424 #[zaa 0,zaa 0]:=(Blk.newAt rfl).drew
 refine hK.out _ _ (HS.out _ hbe2) (fun hHeld=>?_)
 clear hK K
 have hbcc:=hbc.cell
 have hbcf:=hbc.frozen
 have hbcl:=hbc.lt
 refine lst (by kernel_rfl) rfl fun K hK=>?_
 go_simp
 refine hK _ _ ?_
 clear hK K hHeld
 have hbk:Blk (w1.alloc (.cells #[zaa (st.ho n),zaa (st.ht n)] 424)).drew w1.heap.size 424 #[zaa (st.ho n),zaa (st.ht n)]:=(Blk.newAt rfl).drew
 have hbe3:Below w1.heap.size w1 (w1.alloc (.cells #[zaa (st.ho n),zaa (st.ht n)] 424)).drew:=((Below.refl _ _).alloc (Nat.le_refl _) _).drew
 generalize hW:(w1.alloc (.cells #[zaa (st.ho n),zaa (st.ht n)] 424)).drew=w2 at hbk hbe3 ⊢
 obtain⟨kb,hkb⟩:∃ kb,kb=w1.heap.size:=⟨_,rfl⟩
 rw[← hkb]at hbk ⊢
 have HKB:=zH (show w.heap.size+1<kb by rw[hkb];exact hbh.lt)
 have HBE2:=zH (hbe.trans (hbe3.mono hbe.size))
 have hbn2:=hbn.below hbe3 hbn.lt
 have hbh2:=hbh.below hbe3 hbh.lt
 have hgh2:∀ W',PtKp w2 W'→PtM W' B fb V st out mh mt mu:=fun W' hk=>(hgh _ hbe3).kp hk
 have HGH:=zH hgh2
 have hsm:=HM.out.sm n
 clear hW hkb hbcc hbcf hbcl hbc hbe2 hgh hgh2 hbe3 hbe HS hbn hbh
 have hkc:=hbk.cell
 have hkf:=hbk.frozen
 have hkl:=hbk.lt
 have hhc:=hbh2.cell
 go_wp2_with fail
 refine(zhx (st.ho n) o ⟨kb,0,none⟩ w2 hsm.1 ho (hkc 0) (hkf 0)).mono ?_
 rintro e w3 ⟨rfl,rfl⟩
 have hbk3:=(hbk.set_ 0 (zaa (st.ho n|||o))).cast (show _=#[zaa (st.ho n|||o),zaa (st.ht n)] by simp)
 have hbh3:=hbh2.far (p:=⟨kb,0,none⟩) (Nat.ne_of_lt HKB.out) (zaa (st.ho n|||o))
 have hbn3:=hbn2.far (p:=⟨kb,0,none⟩) (Nat.ne_of_lt (show w.heap.size<kb from Nat.lt_of_succ_lt HKB.out)) (zaa (st.ho n|||o))
 have hkp3:=PtKp.set hbk (by decide) (by decide) 0 (zaa (st.ho n|||o))
 have hbe3:=HBE2.out.setCell (p:=⟨kb,0,none⟩) (Nat.le_of_lt (Nat.lt_of_succ_lt HKB.out)) (zaa (st.ho n|||o))
 generalize hW:w2.setCell ⟨kb,0,none⟩ (zaa (st.ho n|||o))=w3 at hbk3 hbh3 hbn3 hkp3 hbe3 ⊢
 clear hW hkc hkf hkl hhc hbk hbh2 hbn2 HBE2
 have hkc:=hbk3.cell
 have hkf:=hbk3.frozen
 have hkl:=hbk3.lt
 have hhc:=hbh3.cell
 go_wp2_with fail
 refine(zhx (st.ht n) t ⟨kb,1,none⟩ w3 hsm.2 ht (hkc 1) (hkf 1)).mono ?_
 rintro e w4 ⟨rfl,rfl⟩
 have hbk4:=(hbk3.set_ 1 (zaa (st.ht n|||t))).cast (show _=#[zaa (st.ho n|||o),zaa (st.ht n|||t)] by simp)
 have hbn4:=hbn3.far (p:=⟨kb,1,none⟩) (Nat.ne_of_lt (show w.heap.size<kb from Nat.lt_of_succ_lt HKB.out)) (zaa (st.ht n|||t))
 have hkp4:=hkp3.trans (PtKp.set hbk3 (by decide) (by decide) 1 (zaa (st.ht n|||t)))
 have hbe4:=hbe3.setCell (p:=⟨kb,1,none⟩) (Nat.le_of_lt (Nat.lt_of_succ_lt HKB.out)) (zaa (st.ht n|||t))
 generalize hW:w3.setCell ⟨kb,1,none⟩ (zaa (st.ht n|||t))=w4 at hbk4 hbn4 hkp4 hbe4 ⊢
 clear hW hkc hkf hkl hhc hbk3 hbh3 hbn3 hbe3 hkp3
 have hm4:=HGH.out w4 hkp4
 clear HGH hkp4
 obtain⟨w5,hrun,hm5,hg5,hz5⟩:=(hm4.kp (PtKp.drew w4)).h.update (t:=378) (e:=424) ze5 Tryz.underlying378 HN.out (st.ho n|||o,st.ht n|||t)
 have hrun':(Instr.mapUpdate 378 (.map (some V.hb)) (.agg #[.int .u8 n.k,.int .i64 n.a,.int .i64 n.b]) (.agg #[zaa (st.ho n|||o),zaa (st.ht n|||t)])).run Tryz.prog w4.drew=.ok () w5:=hrun
 have HFIN:=zH (show zk9 B fb wf V st out n o t w (.returned (.bool (zdn st n o t))) w5 from⟨rfl,⟨(HON.out.trans (hbe4.drew.mono hbs)).grown hg5 (Nat.le_trans hbs hbe4.size) (fun k e=>by cases e;exact HM.out.bB.2.1),Nat.le_trans hbs (Nat.le_trans hbe4.size hg5.size),_,_,_,(hm4.kp (PtKp.drew w4)).setH hm5 hg5 rfl ho ht⟩,zvx hbe4.drew hg5⟩)
 have HS:=zH (show(∀ i,w4.drew.cell? ⟨V.sb,i,none⟩=#[.pointer (some ⟨fb,0,none⟩),.map (some V.hb),.map (some V.tb),.map (some V.ub),zaa out][i]?)∧(∀ i,w4.drew.cell? ⟨w.heap.size,i,none⟩=#[.int .u8 n.k,.int .i64 n.a,.int .i64 n.b][i]?)∧(∀ i,w4.drew.cell? ⟨kb,i,none⟩=#[zaa (st.ho n|||o),zaa (st.ht n|||t)][i]?)from⟨hm4.s.cell,hbn4.cell,hbk4.cell⟩)
 clear hbk4 hbn4 hbe4 hm4 hrun hm5 hg5 hz5 hsm
 go_wp2_with fail
 refine zah 6 (fun W'=>(∀ i,W'.cell? ⟨V.sb,i,none⟩=#[.pointer (some ⟨fb,0,none⟩),.map (some V.hb),.map (some V.tb),.map (some V.ub),zaa out][i]?)∧(∀ i,W'.cell? ⟨w.heap.size,i,none⟩=#[.int .u8 n.k,.int .i64 n.a,.int .i64 n.b][i]?)∧(∀ i,W'.cell? ⟨kb,i,none⟩=#[zaa (st.ho n|||o),zaa (st.ht n|||t)][i]?)) (by kernel_rfl) rfl rfl (by kernel_rfl) ?_
 simp only[List.take_succ_cons,List.take_zero]
 have hHeld:=HS.out
 iterate 6(refine tk 0 rfl (by kernel_rfl) (fun _ _ _ h=>h) hHeld (fun w hSw=>by go_simp;try with_reducible rfl) (by simp only[pA,pB,pC,pD,pE,pF,pG,pH];exact rfl) ?_)
 refine lst (by kernel_rfl) rfl fun K hK=>?_
 go_simp
 refine hK _ _ ?_
 clear hK K hHeld hrun'
 cases hc:(st.ho n|||o != st.ho n)
 ·have HF:=zH (show zk9 B fb wf V st out n o t w (.returned (.bool (st.ht n|||t != st.ht n))) w5 from by
   have h1:=HFIN.out
   rw[show zdn st n o t=(st.ht n|||t != st.ht n) by unfold zdn;rw[hc,Bool.false_or]]at h1
   exact h1)
  clear hc HFIN
  go_wp2_with fail
  go_ret
  exact HF.out
 ·have HF:=zH (show zk9 B fb wf V st out n o t w (.returned (.bool true)) w5 from by
   have h1:=HFIN.out
   rw[show zdn st n o t=true by unfold zdn;rw[hc,Bool.true_or]]at h1
   exact h1)
  clear hc HFIN
  go_wp2_with fail
  go_ret
  exact HF.out
end
section
open Go.RowKit Go.Maps Go.ChangeMaps
set_option linter.unusedSimpArgs false
section
variable {w w' w2:World} {B fb:Nat} {V:PtV} {st:PS} {out:Nat} {mh:List (Nd×(Nat×Nat))} {mt:List (Nd×Nat)} {mu:List (Nd×Value)} {N b g:Nat}
theorem NkE.new (w:World):NkE (w.alloc (.map #[] 0)) w.heap.size (fun _=>false):=⟨[],zaf.made w _ _ _,by simp,fun _=>rfl⟩
theorem NkE.put {S:Nd→Bool}{n:Nd}(h:NkE w b S)(hn:NdOk n):∃ w',(Instr.mapUpdate 429 (.map (some b)) (.agg #[.int .u8 n.k,.int .i64 n.a,.int .i64 n.b]) (.int .i64 1)).run Tryz.prog w=.ok () w'∧NkE w' b (fun y=>decide (y=n)||S y)∧w.grownBy w' (some b)∧w'.heap.size=w.heap.size:=by
 obtain⟨m,h1,h2,h3⟩:=h
 obtain⟨w3,hrun,hm3,hg3,hz3⟩:=h1.update (t:=429) (e:=3) ze5 Tryz.underlying429 hn 1
 refine⟨w3,hrun,⟨_,hm3,?_,?_⟩,hg3,hz3⟩
 ·intro p hp
  rcases zg6 hp with rfl | hp
  ·rfl
  ·exact h2 p hp
 ·intro y
  rw[zh1]
  by_cases e:n=y
  ·subst e;simp
  ·rw[if_neg e,h3 y]
   show S y=(decide (y=n)||S y)
   rw[decide_eq_false (fun e':y=n=>e e'.symm),Bool.false_or]
theorem zo0 {κ ν : Type} [DecidableEq κ] {m:List (κ × ν)} {x:κ} {v:ν} (h:mget m x=none):mput m x v=m++[(x,v)]:=zop m x v (zlj.1 h)
theorem PtM.newT {a:Nd}(h:PtM w B fb V st out mh mt mu)(ha:mget mt a=none)(hb:NkE w b (fun _=>false))(hB:B≤b)(hne:b≠V.hb∧b≠V.tb∧b≠V.ub)(hnew:∀ n b',(n,b') ∈ mt→b'≠b)
  (hm:zaf w' V.tb ndV NdOk (fun b=>.map (some b)) (mput mt a b)) (hg:w.grownBy w' (some V.tb)):PtM w' B fb V st out mh (mput mt a b) mu:=by
 have hs:∀ {g},g<w.heap.size→g≠V.tb→w'.heap[g]? = w.heap[g]? := fun h1 h2=>hg.block _ h1 (fun e=>h2 (by injection e))
 refine⟨(hs h.s.lt (fun e=>h.t.cellFar h.s e.symm)).trans h.s,h.h.of_block (hs h.h.lt h.ne.1),h.hv,hm,?_,fun n b' hb'=>?_,fun n hn y=>?_,h.u.of_block (hs h.u.lt h.ne.2.2.symm),fun n v hv=>?_,h.un,h.u0,h.bB,h.ne,h.sm⟩
 ·rw[zo0 ha,List.map_append,List.nodup_append]
  refine⟨h.tn,by simp,fun x hx y hy e=>?_⟩
  simp at hy
  subst hy e
  obtain⟨p,hp,hpe⟩:=List.mem_map.1 hx
  exact hnew p.1 p.2 hp hpe
 ·rcases zg6 hb' with e | hb'
  ·injection e with e1 e2
   subst e1 e2
   refine⟨?_,hB,hne⟩
   have h1:(fun _=>false)=st.to n:=funext fun y=>(h.t0 n ha y).symm
   rw[← h1]
   exact hb.of_block (hs hb.lt hne.2.1)
  ·obtain⟨j1,j2⟩:=h.ti n b' hb'
   exact⟨j1.of_block (hs j1.lt j2.2.2.1),j2⟩
 ·refine h.t0 n ?_ y
  rw[zh1]at hn
  split at hn
  ·cases hn
  ·exact hn
 ·exact zhf (h.ur n v hv) fun k hk=>hs ((h.ur n v hv).lt k hk).2 (fun e=>h.t.neRow (h.ur n v hv) (by rw[hk,e]))
end
structure EdFr (V:PtV)(w w':World):Prop where
 os:w'.os=w.os
 tape:w'.tape=w.tape
 output:w'.output=w.output
 size:w.heap.size≤w'.heap.size
 same:∀ (k:Nat) (o:Obj),w.heap[k]? = some o→((∀ es c,o≠.map es c)∨k=V.ub∨k=V.hb)→w'.heap[k]? = some o
def zgq (B fb:Nat)(wf:World)(V:PtV)(st:PS)(out:Nat)(a c:Nd)(w:World)(e:Ending)(w':World):Prop :=
 e=.returned (.bool (!st.to a c))∧PtAt B fb wf V (zbd st a c) out w'∧EdFr V w w'
theorem EdFr.below {V:PtV}{w w':World}(h:Below w.heap.size w w'):EdFr V w w':=⟨h.os,h.tape,h.output,h.size,fun k _ ho _=>(h.block k (lt_of_block ho)).trans ho⟩
theorem EdFr.trans {V:PtV}{w w1 w2:World}(h:EdFr V w w1)(h':EdFr V w1 w2):EdFr V w w2:=⟨h'.os.trans h.os,h'.tape.trans h.tape,h'.output.trans h.output,Nat.le_trans h.size h'.size,fun k o ho hc=>h'.same k o (h.same k o ho hc) hc⟩
theorem EdFr.grown {V:PtV}{w w':World}{b:Nat}(h:w.grownBy w' (some b))(hu:b≠V.ub)(hh:b≠V.hb)(hm:∃ es c,w.heap[b]? = some (.map es c)):EdFr V w w' :=
 ⟨h.os,h.tape,h.output,h.size,fun k o ho hc=>(h.block k (lt_of_block ho) (fun e=>by
  injection e with e
  subst e
  rcases hc with hc | hc | hc
  ·obtain⟨es,c,hm⟩:=hm
   rw[ho]at hm
   injection hm with hm
   exact hc _ _ hm
  ·exact hu hc
  ·exact hh hc)).trans ho⟩
theorem zaf.obj {w:World}{b:Nat}{κ ν : Type}{enc:κ → Value}{ok:κ → Prop}{encv:ν → Value}{m:List (κ × ν)}(h:zaf w b enc ok encv m):∃ es c,w.heap[b]? = some (.map es c):=by
 obtain⟨es,c,h,_⟩:=h
 exact⟨es,c,h⟩
theorem NkE.obj {w:World}{b:Nat}{S:Nd→Bool}(h:NkE w b S):∃ es c,w.heap[b]? = some (.map es c):=by
 obtain⟨m,h,_⟩:=h
 exact h.obj
theorem zih (B fb:Nat)(wf:World)(V:PtV)(st:PS)(out:Nat)(a c:Nd)(w:World)(h:PtAt B fb wf V st out w)(ha:NdOk a)(hc:NdOk c) :
  Calls Tryz.prog 279 #[.pointer (some ⟨V.sb,0,none⟩),.agg #[.int .u8 a.k,.int .i64 a.a,.int .i64 a.b],.agg #[.int .u8 c.k,.int .i64 c.a,.int .i64 c.b]] w (zgq B fb wf V st out a c w):=by
 obtain⟨hon,hbs,mh,mt,mu,hm⟩:=h
 have hmm:=@run_makeMap Tryz.prog
 have hsc:=hm.s.cell
 unfold zeh at hsc
 have hsl:=hm.s.lt
 have HM:=zH hm
 have HON:=zH hon
 have HA:=zH ha
 have HC:=zH hc
 have HLK:=zH (show ∀ W',PtM W' B fb V st out mh mt mu→(Instr.lookup 379 (.map (some V.tb)) (.agg #[.int .u8 a.k,.int .i64 a.a,.int .i64 a.b]) false).run Tryz.prog W'=.ok (match mget mt a with | some b=>.map (some b) | none=>.map none) W' from fun W' h=>by
  have:=h.t.lookup (t:=379) (e:=429) ze5 Tryz.underlying379 (z:=.map none) (Tryz.zeroValue429 W') HA.out false
  rw[this]
  cases mget mt a <;> rfl)
 clear hm hon ha hc
 have hb1:Below w.heap.size w ((w.alloc (.cells #[.int .u8 a.k,.int .i64 a.a,.int .i64 a.b] 419)).alloc (.cells #[.int .u8 c.k,.int .i64 c.a,.int .i64 c.b] 419)):=((Below.refl _ _).alloc (Nat.le_refl _) _).alloc (by simp) _
 have hba:Blk ((w.alloc (.cells #[.int .u8 a.k,.int .i64 a.a,.int .i64 a.b] 419)).alloc (.cells #[.int .u8 c.k,.int .i64 c.a,.int .i64 c.b] 419)) w.heap.size 419 #[.int .u8 a.k,.int .i64 a.a,.int .i64 a.b]:=(Blk.newAt rfl).alloc _
 have hbc:Blk ((w.alloc (.cells #[.int .u8 a.k,.int .i64 a.a,.int .i64 a.b] 419)).alloc (.cells #[.int .u8 c.k,.int .i64 c.a,.int .i64 c.b] 419)) (w.heap.size+1) 419 #[.int .u8 c.k,.int .i64 c.a,.int .i64 c.b]:=Blk.newAt (by simp)
 cases hg:mget mt a with
 | none =>
  rw[hg]at HLK
  simp only at HLK
  have HG:=zH hg
  clear hg
  have HEDN:=zH (show ∀ W',PtM W' B fb V st out mh mt mu→Blk W' w.heap.size 419 #[.int .u8 a.k,.int .i64 a.a,.int .i64 a.b]→Blk W' (w.heap.size+1) 419 #[.int .u8 c.k,.int .i64 c.a,.int .i64 c.b]→(fun W'=>(∀ i,W'.cell? ⟨V.sb,i,none⟩=#[.pointer (some ⟨fb,0,none⟩),.map (some V.hb),.map (some V.tb),.map (some V.ub),zaa out][i]?)∧(∀ i,W'.cell? ⟨w.heap.size,i,none⟩=#[.int .u8 a.k,.int .i64 a.a,.int .i64 a.b][i]?)∧(∀ i,W'.cell? ⟨w.heap.size+1,i,none⟩=#[.int .u8 c.k,.int .i64 c.a,.int .i64 c.b][i]?)∧(Instr.lookup 379 (.map (some V.tb)) (.agg #[.int .u8 a.k,.int .i64 a.a,.int .i64 a.b]) false).run Tryz.prog W'=.ok (.map none) W') W' from fun W' h h1 h2=>⟨h.s.cell,h1.cell,h2.cell,HLK.out W' h⟩)
  go_enter Tryz.func279,Tryz.ntmps279
  go_wp2_with fail
  generalize hW:((w.alloc (.cells #[.int .u8 a.k,.int .i64 a.a,.int .i64 a.b] 419)).alloc (.cells #[.int .u8 c.k,.int .i64 c.a,.int .i64 c.b] 419))=w1 at hb1 hba hbc ⊢
  clear hW hsc hsl HLK
  have HM1:=zH (HM.out.kp (PtKp.below hb1 (Nat.le_refl _)))
  refine zah 6 (fun W'=>(∀ i,W'.cell? ⟨V.sb,i,none⟩=#[.pointer (some ⟨fb,0,none⟩),.map (some V.hb),.map (some V.tb),.map (some V.ub),zaa out][i]?)∧(∀ i,W'.cell? ⟨w.heap.size,i,none⟩=#[.int .u8 a.k,.int .i64 a.a,.int .i64 a.b][i]?)∧(∀ i,W'.cell? ⟨w.heap.size+1,i,none⟩=#[.int .u8 c.k,.int .i64 c.a,.int .i64 c.b][i]?)∧(Instr.lookup 379 (.map (some V.tb)) (.agg #[.int .u8 a.k,.int .i64 a.a,.int .i64 a.b]) false).run Tryz.prog W'=.ok (.map none) W') (by kernel_rfl) rfl rfl (by kernel_rfl) ?_
  simp only[List.take_succ_cons,List.take_zero]
  have hHeld:=HEDN.out w1.drew (HM1.out.kp (PtKp.drew _)) hba.drew hbc.drew
  iterate 6(refine tk 0 rfl (by kernel_rfl) (fun _ _ _ h=>h) hHeld (fun w hSw=>by go_simp;try with_reducible rfl) (by simp only[pA,pB,pC,pD,pE,pF,pG,pH];exact rfl) ?_)
  refine lst (by kernel_rfl) rfl fun K hK=>?_
  go_simp
  refine hK _ _ ?_
  clear hK K hHeld
  go_wp2_with fail
  refine zah 6 (fun W'=>(∀ i,W'.cell? ⟨V.sb,i,none⟩=#[.pointer (some ⟨fb,0,none⟩),.map (some V.hb),.map (some V.tb),.map (some V.ub),zaa out][i]?)∧(∀ i,W'.cell? ⟨w.heap.size,i,none⟩=#[.int .u8 a.k,.int .i64 a.a,.int .i64 a.b][i]?)∧(∀ i,W'.cell? ⟨w.heap.size+1,i,none⟩=#[.int .u8 c.k,.int .i64 c.a,.int .i64 c.b][i]?)∧(Instr.lookup 379 (.map (some V.tb)) (.agg #[.int .u8 a.k,.int .i64 a.a,.int .i64 a.b]) false).run Tryz.prog W'=.ok (.map none) W') (by kernel_rfl) rfl rfl (by kernel_rfl) ?_
  simp only[List.take_succ_cons,List.take_zero]
  have hHeld:=HEDN.out w1.drew.drew (HM1.out.kp ((PtKp.drew _).trans (PtKp.drew _))) hba.drew.drew hbc.drew.drew
  iterate 5(refine tk 0 rfl (by kernel_rfl) (fun _ _ _ h=>h) hHeld (fun w hSw=>by go_simp;try with_reducible rfl) (by simp only[pA,pB,pC,pD,pE,pF,pG,pH];exact rfl) ?_)
  refine rdy 5 (by kernel_rfl) rfl fun K hK=>?_
  go_simp
  obtain⟨wb,hwb⟩:∃ wb,wb=(w1.alloc (.map #[] 0)).drew.drew:=⟨_,rfl⟩
  have hnb:NkE wb w1.heap.size (fun _=>false):=by rw[hwb];exact(NkE.new w1).pt ((PtKp.drew _).trans (PtKp.drew _))
  have hbw:Below w1.heap.size w1 wb:=by rw[hwb];exact((Below.refl _ w1).alloc (Nat.le_refl _) _).drew.drew
  rw[← hwb]
  have HMb:=zH (HM1.out.kp (PtKp.below hbw (Nat.le_refl _)))
  have hba2:=hba.below hbw hba.lt
  have hbc2:=hbc.below hbw hbc.lt
  have hbon:=hb1.trans (hbw.mono hb1.size)
  refine hK.out _ _ (HEDN.out wb HMb.out hba2 hbc2) (fun hHeld=>?_)
  clear hK K hwb
  obtain⟨b,hbe⟩:∃ b,b=w1.heap.size:=⟨_,rfl⟩
  rw[← hbe]at hnb ⊢
  have hnew:∀ n b',(n,b') ∈ mt→b'≠b:=fun n b' hb'=>Nat.ne_of_lt (by rw[hbe];exact(HM1.out.ti n b' hb').1.lt)
  have hneq:b≠V.hb∧b≠V.tb∧b≠V.ub:=⟨by have:=HM1.out.h.lt;omega,by have:=HM1.out.t.lt;omega,by have:=HM1.out.u.lt;omega⟩
  have hBb:B≤b:=by rw[hbe];exact Nat.le_trans hbs hb1.size
  obtain⟨wc,hrun,hmc,hgc,hzc⟩:=HMb.out.t.update (t:=379) (e:=429) ze5 Tryz.underlying379 HA.out b
  have hrun':(Instr.mapUpdate 379 (.map (some V.tb)) (.agg #[.int .u8 a.k,.int .i64 a.a,.int .i64 a.b]) (.map (some b))).run Tryz.prog wb=.ok () wc:=hrun
  have HMc:=zH (HMb.out.newT HG.out hnb hBb hneq hnew hmc hgc)
  have HBA:=zH (hba2.grown hgc (fun e=>HMb.out.t.cellFar hba2 (by injection e with e;exact e.symm)))
  have HBC:=zH (hbc2.grown hgc (fun e=>HMb.out.t.cellFar hbc2 (by injection e with e;exact e.symm)))
  have HFR:=zH (show EdFr V w wc from(EdFr.below hbon).trans (EdFr.grown hgc HMb.out.ne.2.2 HMb.out.ne.1.symm HMb.out.t.obj))
  have HONW:=zH (show Below B wf wc from(HON.out.trans (hbon.mono hbs)).grown hgc (Nat.le_trans hbs hbon.size) (fun k e=>by cases e;exact HM.out.bB.2.2.1))
  have HMEM:=zH (show(a,b) ∈ mput mt a b from by rw[zo0 HG.out];simp)
  have HNDT:=zH (show((mput mt a b).map Prod.fst).Nodup from by obtain⟨_,_,_,_,h,_⟩:=HMc.out.t;exact h)
  have HEDS:=zH (show ∀ W',PtM W' B fb V st out mh (mput mt a b) mu→Blk W' w.heap.size 419 #[.int .u8 a.k,.int .i64 a.a,.int .i64 a.b]→Blk W' (w.heap.size+1) 419 #[.int .u8 c.k,.int .i64 c.a,.int .i64 c.b]→(fun W'=>(∀ i,W'.cell? ⟨V.sb,i,none⟩=#[.pointer (some ⟨fb,0,none⟩),.map (some V.hb),.map (some V.tb),.map (some V.ub),zaa out][i]?)∧(∀ i,W'.cell? ⟨w.heap.size,i,none⟩=#[.int .u8 a.k,.int .i64 a.a,.int .i64 a.b][i]?)∧(∀ i,W'.cell? ⟨w.heap.size+1,i,none⟩=#[.int .u8 c.k,.int .i64 c.a,.int .i64 c.b][i]?)∧(Instr.lookup 379 (.map (some V.tb)) (.agg #[.int .u8 a.k,.int .i64 a.a,.int .i64 a.b]) false).run Tryz.prog W'=.ok (.map (some b)) W') W' from fun W' h h1 h2=>⟨h.s.cell,h1.cell,h2.cell,by
   have:=h.t.lookup (t:=379) (e:=429) ze5 Tryz.underlying379 (z:=.map none) (Tryz.zeroValue429 W') HA.out false
   rw[this,zhl HNDT.out HMEM.out]
   rfl⟩)
  clear hnb hbw hba2 hbc2 hbon hnew hneq hBb hbe hrun hmc hgc hzc HEDN hba hbc hb1 HM1 HMb HNDT HG
  refine lst (by kernel_rfl) rfl fun K hK=>?_
  go_simp
  refine hK _ _ ?_
  clear hK K hHeld hrun'
  go_wp2_with fail
  refine zah 7 (fun W'=>(∀ i,W'.cell? ⟨V.sb,i,none⟩=#[.pointer (some ⟨fb,0,none⟩),.map (some V.hb),.map (some V.tb),.map (some V.ub),zaa out][i]?)∧(∀ i,W'.cell? ⟨w.heap.size,i,none⟩=#[.int .u8 a.k,.int .i64 a.a,.int .i64 a.b][i]?)∧(∀ i,W'.cell? ⟨w.heap.size+1,i,none⟩=#[.int .u8 c.k,.int .i64 c.a,.int .i64 c.b][i]?)∧(Instr.lookup 379 (.map (some V.tb)) (.agg #[.int .u8 a.k,.int .i64 a.a,.int .i64 a.b]) false).run Tryz.prog W'=.ok (.map (some b)) W') (by kernel_rfl) rfl rfl (by kernel_rfl) ?_
  simp only[List.take_succ_cons,List.take_zero]
  have hHeld:=HEDS.out (wc.drew) (HMc.out.kp (PtKp.drew _)) HBA.out.drew HBC.out.drew
  iterate 7(refine tk 0 rfl (by kernel_rfl) (fun _ _ _ h=>h) hHeld (fun w hSw=>by go_simp;try with_reducible rfl) (by simp only[pA,pB,pC,pD,pE,pF,pG,pH];exact rfl) ?_)
  refine lst (by kernel_rfl) rfl fun K hK=>?_
  go_simp
  refine(zrl wc.drew b (st.to a) c ((HMc.out.ti a b HMEM.out).1.pt (PtKp.drew _)) HC.out).mono ?_
  rintro e w5 ⟨rfl,he5⟩
  refine hK _ _ ?_
  clear hK K hHeld
  have hb5:Below wc.heap.size wc w5:=by rw[he5];exact(Below.refl _ wc).drew.alloc (Nat.le_refl _) _
  have HM5:=zH (HMc.out.kp (PtKp.below hb5 (Nat.le_refl _)))
  have HFR5:=zH (HFR.out.trans (EdFr.below hb5))
  have HON5:=zH (HONW.out.trans (hb5.mono (Nat.le_trans hbs HFR.out.size)))
  have HBA5:=zH (HBA.out.below hb5 HBA.out.lt)
  have HBC5:=zH (HBC.out.below hb5 HBC.out.lt)
  clear he5 hb5
  cases hto:st.to a c
  ·have FIN:=zH (show zgq B fb wf V st out a c w (.returned (.bool true)) w5→zgq B fb wf V st out a c w (.returned (.bool true)) w5 from id)
   have HTO:=zH hto
   clear hto FIN
   go_wp2_with fail
   obtain⟨w6,hrun,hm6,hg6,hz6⟩:=(((HM5.out.kp (PtKp.drew _)).ti a b HMEM.out).1).put HC.out
   have FIN:=zH (show zgq B fb wf V st out a c w (.returned (.bool true)) w6 from by
    obtain⟨i1,i2,i3,i4,i5⟩:=HM5.out.ti a b HMEM.out
    exact⟨by rw[HTO.out];rfl,⟨HON5.out.drew.grown hg6 (Nat.le_trans hbs HFR5.out.size) (fun k e=>by cases e;exact i2),Nat.le_trans hbs (Nat.le_trans HFR5.out.size hg6.size),_,_,_,(HM5.out.kp (PtKp.drew _)).setT HMEM.out hm6 hg6⟩,HFR5.out.trans ((EdFr.below (Below.refl _ w5).drew).trans (EdFr.grown hg6 i5 i3 i1.obj))⟩)
   clear hm6 hg6 hz6
   refine zah 7 (fun W'=>(∀ i,W'.cell? ⟨V.sb,i,none⟩=#[.pointer (some ⟨fb,0,none⟩),.map (some V.hb),.map (some V.tb),.map (some V.ub),zaa out][i]?)∧(∀ i,W'.cell? ⟨w.heap.size,i,none⟩=#[.int .u8 a.k,.int .i64 a.a,.int .i64 a.b][i]?)∧(∀ i,W'.cell? ⟨w.heap.size+1,i,none⟩=#[.int .u8 c.k,.int .i64 c.a,.int .i64 c.b][i]?)∧(Instr.lookup 379 (.map (some V.tb)) (.agg #[.int .u8 a.k,.int .i64 a.a,.int .i64 a.b]) false).run Tryz.prog W'=.ok (.map (some b)) W') (by kernel_rfl) rfl rfl (by kernel_rfl) ?_
   simp only[List.take_succ_cons,List.take_zero]
   have hHeld:=HEDS.out w5.drew (HM5.out.kp (PtKp.drew _)) HBA5.out.drew HBC5.out.drew
   iterate 7(refine tk 0 rfl (by kernel_rfl) (fun _ _ _ h=>h) hHeld (fun w hSw=>by go_simp;try with_reducible rfl) (by simp only[pA,pB,pC,pD,pE,pF,pG,pH];exact rfl) ?_)
   refine lst (by kernel_rfl) rfl fun K hK=>?_
   go_simp
   refine hK _ _ ?_
   clear hK K hHeld hrun
   go_wp2_with fail
   go_ret
   exact FIN.out
  ·have FIN:=zH (show zgq B fb wf V st out a c w (.returned (.bool false)) w5 from
    ⟨by rw[hto];rfl,⟨HON5.out,Nat.le_trans hbs HFR5.out.size,by rw[zmk hto];exact⟨_,_,_,HM5.out⟩⟩,HFR5.out⟩)
   clear hto
   go_wp2_with fail
   go_ret
   exact FIN.out
 | some b =>
  rw[hg]at HLK
  simp only at HLK
  have HMEM:=zH (zfi hg)
  have HEDS:=zH (show ∀ W',PtM W' B fb V st out mh mt mu→Blk W' w.heap.size 419 #[.int .u8 a.k,.int .i64 a.a,.int .i64 a.b]→Blk W' (w.heap.size+1) 419 #[.int .u8 c.k,.int .i64 c.a,.int .i64 c.b]→(fun W'=>(∀ i,W'.cell? ⟨V.sb,i,none⟩=#[.pointer (some ⟨fb,0,none⟩),.map (some V.hb),.map (some V.tb),.map (some V.ub),zaa out][i]?)∧(∀ i,W'.cell? ⟨w.heap.size,i,none⟩=#[.int .u8 a.k,.int .i64 a.a,.int .i64 a.b][i]?)∧(∀ i,W'.cell? ⟨w.heap.size+1,i,none⟩=#[.int .u8 c.k,.int .i64 c.a,.int .i64 c.b][i]?)∧(Instr.lookup 379 (.map (some V.tb)) (.agg #[.int .u8 a.k,.int .i64 a.a,.int .i64 a.b]) false).run Tryz.prog W'=.ok (.map (some b)) W') W' from fun W' h h1 h2=>⟨h.s.cell,h1.cell,h2.cell,HLK.out W' h⟩)
  clear hg
  go_enter Tryz.func279,Tryz.ntmps279
  go_wp2_with fail
  generalize hW:((w.alloc (.cells #[.int .u8 a.k,.int .i64 a.a,.int .i64 a.b] 419)).alloc (.cells #[.int .u8 c.k,.int .i64 c.a,.int .i64 c.b] 419))=w1 at hb1 hba hbc ⊢
  clear hW hsc hsl HLK
  have HM1:=zH (HM.out.kp (PtKp.below hb1 (Nat.le_refl _)))
  refine zah 6 (fun W'=>(∀ i,W'.cell? ⟨V.sb,i,none⟩=#[.pointer (some ⟨fb,0,none⟩),.map (some V.hb),.map (some V.tb),.map (some V.ub),zaa out][i]?)∧(∀ i,W'.cell? ⟨w.heap.size,i,none⟩=#[.int .u8 a.k,.int .i64 a.a,.int .i64 a.b][i]?)∧(∀ i,W'.cell? ⟨w.heap.size+1,i,none⟩=#[.int .u8 c.k,.int .i64 c.a,.int .i64 c.b][i]?)∧(Instr.lookup 379 (.map (some V.tb)) (.agg #[.int .u8 a.k,.int .i64 a.a,.int .i64 a.b]) false).run Tryz.prog W'=.ok (.map (some b)) W') (by kernel_rfl) rfl rfl (by kernel_rfl) ?_
  simp only[List.take_succ_cons,List.take_zero]
  have hHeld:=HEDS.out w1.drew (HM1.out.kp (PtKp.drew _)) hba.drew hbc.drew
  iterate 6(refine tk 0 rfl (by kernel_rfl) (fun _ _ _ h=>h) hHeld (fun w hSw=>by go_simp;try with_reducible rfl) (by simp only[pA,pB,pC,pD,pE,pF,pG,pH];exact rfl) ?_)
  refine lst (by kernel_rfl) rfl fun K hK=>?_
  go_simp
  refine hK _ _ ?_
  clear hK K hHeld
  have HMd:=zH (HM1.out.kp (PtKp.drew _))
  have HBA:=zH hba.drew
  have HBC:=zH hbc.drew
  have HFR:=zH (show EdFr V w w1.drew from(EdFr.below hb1).trans (EdFr.below (Below.refl _ _).drew))
  have HONW:=zH (show Below B wf w1.drew from HON.out.trans (hb1.drew.mono hbs))
  generalize hW:w1.drew=wd at HMd HBA HBC HFR HONW ⊢
  clear hW hb1 hba hbc HM1
  go_wp2_with fail
  refine zah 7 (fun W'=>(∀ i,W'.cell? ⟨V.sb,i,none⟩=#[.pointer (some ⟨fb,0,none⟩),.map (some V.hb),.map (some V.tb),.map (some V.ub),zaa out][i]?)∧(∀ i,W'.cell? ⟨w.heap.size,i,none⟩=#[.int .u8 a.k,.int .i64 a.a,.int .i64 a.b][i]?)∧(∀ i,W'.cell? ⟨w.heap.size+1,i,none⟩=#[.int .u8 c.k,.int .i64 c.a,.int .i64 c.b][i]?)∧(Instr.lookup 379 (.map (some V.tb)) (.agg #[.int .u8 a.k,.int .i64 a.a,.int .i64 a.b]) false).run Tryz.prog W'=.ok (.map (some b)) W') (by kernel_rfl) rfl rfl (by kernel_rfl) ?_
  simp only[List.take_succ_cons,List.take_zero]
  have hHeld:=HEDS.out (wd.drew) (HMd.out.kp (PtKp.drew _)) HBA.out.drew HBC.out.drew
  iterate 7(refine tk 0 rfl (by kernel_rfl) (fun _ _ _ h=>h) hHeld (fun w hSw=>by go_simp;try with_reducible rfl) (by simp only[pA,pB,pC,pD,pE,pF,pG,pH];exact rfl) ?_)
  refine lst (by kernel_rfl) rfl fun K hK=>?_
  go_simp
  refine(zrl wd.drew b (st.to a) c ((HMd.out.ti a b HMEM.out).1.pt (PtKp.drew _)) HC.out).mono ?_
  rintro e w5 ⟨rfl,he5⟩
  refine hK _ _ ?_
  clear hK K hHeld
  have hb5:Below wd.heap.size wd w5:=by rw[he5];exact(Below.refl _ wd).drew.alloc (Nat.le_refl _) _
  have HM5:=zH (HMd.out.kp (PtKp.below hb5 (Nat.le_refl _)))
  have HFR5:=zH (HFR.out.trans (EdFr.below hb5))
  have HON5:=zH (HONW.out.trans (hb5.mono (Nat.le_trans hbs HFR.out.size)))
  have HBA5:=zH (HBA.out.below hb5 HBA.out.lt)
  have HBC5:=zH (HBC.out.below hb5 HBC.out.lt)
  clear he5 hb5
  cases hto:st.to a c
  ·have FIN:=zH (show zgq B fb wf V st out a c w (.returned (.bool true)) w5→zgq B fb wf V st out a c w (.returned (.bool true)) w5 from id)
   have HTO:=zH hto
   clear hto FIN
   go_wp2_with fail
   obtain⟨w6,hrun,hm6,hg6,hz6⟩:=(((HM5.out.kp (PtKp.drew _)).ti a b HMEM.out).1).put HC.out
   have FIN:=zH (show zgq B fb wf V st out a c w (.returned (.bool true)) w6 from by
    obtain⟨i1,i2,i3,i4,i5⟩:=HM5.out.ti a b HMEM.out
    exact⟨by rw[HTO.out];rfl,⟨HON5.out.drew.grown hg6 (Nat.le_trans hbs HFR5.out.size) (fun k e=>by cases e;exact i2),Nat.le_trans hbs (Nat.le_trans HFR5.out.size hg6.size),_,_,_,(HM5.out.kp (PtKp.drew _)).setT HMEM.out hm6 hg6⟩,HFR5.out.trans ((EdFr.below (Below.refl _ w5).drew).trans (EdFr.grown hg6 i5 i3 i1.obj))⟩)
   clear hm6 hg6 hz6
   refine zah 7 (fun W'=>(∀ i,W'.cell? ⟨V.sb,i,none⟩=#[.pointer (some ⟨fb,0,none⟩),.map (some V.hb),.map (some V.tb),.map (some V.ub),zaa out][i]?)∧(∀ i,W'.cell? ⟨w.heap.size,i,none⟩=#[.int .u8 a.k,.int .i64 a.a,.int .i64 a.b][i]?)∧(∀ i,W'.cell? ⟨w.heap.size+1,i,none⟩=#[.int .u8 c.k,.int .i64 c.a,.int .i64 c.b][i]?)∧(Instr.lookup 379 (.map (some V.tb)) (.agg #[.int .u8 a.k,.int .i64 a.a,.int .i64 a.b]) false).run Tryz.prog W'=.ok (.map (some b)) W') (by kernel_rfl) rfl rfl (by kernel_rfl) ?_
   simp only[List.take_succ_cons,List.take_zero]
   have hHeld:=HEDS.out w5.drew (HM5.out.kp (PtKp.drew _)) HBA5.out.drew HBC5.out.drew
   iterate 7(refine tk 0 rfl (by kernel_rfl) (fun _ _ _ h=>h) hHeld (fun w hSw=>by go_simp;try with_reducible rfl) (by simp only[pA,pB,pC,pD,pE,pF,pG,pH];exact rfl) ?_)
   refine lst (by kernel_rfl) rfl fun K hK=>?_
   go_simp
   refine hK _ _ ?_
   clear hK K hHeld hrun
   go_wp2_with fail
   go_ret
   exact FIN.out
  ·have FIN:=zH (show zgq B fb wf V st out a c w (.returned (.bool false)) w5 from
    ⟨by rw[hto];rfl,⟨HON5.out,Nat.le_trans hbs HFR5.out.size,by rw[zmk hto];exact⟨_,_,_,HM5.out⟩⟩,HFR5.out⟩)
   clear hto
   go_wp2_with fail
   go_ret
   exact FIN.out
end
section
open Go.RowKit Go.Maps Go.ChangeMaps
set_option linter.unusedSimpArgs false
def loc (fn:Nat)(x:Int):Nd:=⟨108,fn,x⟩
def zb8 (st:PS)(fn:Nat)(a:Ar)(n:Nd):PS:=if a.c then st else zbd st (loc fn a.n) n
def zoa (B fb:Nat)(wf:World)(V:PtV)(st:PS)(out:Nat)(w:World)(e:Ending)(w':World):Prop :=
 e=.returned (.tuple #[])∧PtAt B fb wf V st out w'∧EdFr V w w'
theorem PtAt.below {B fb:Nat}{wf:World}{V:PtV}{st:PS}{out:Nat}{w w':World}(h:PtAt B fb wf V st out w)(hb:Below w.heap.size w w'):PtAt B fb wf V st out w':=by
 obtain⟨h1,h2,mh,mt,mu,h3⟩:=h
 exact⟨h1.trans (hb.mono h2),Nat.le_trans h2 hb.size,mh,mt,mu,h3.kp (PtKp.below hb (Nat.le_refl _))⟩
theorem zjp (B fb:Nat)(wf:World)(V:PtV)(st:PS)(out:Nat)(fn:Nat)(a:Ar)(n:Nd)(w:World)(h:PtAt B fb wf V st out w)(hn:NdOk n)(hf:fn<1000000)(ha:a.n<1000000) :
  Calls Tryz.prog 278 #[.pointer (some ⟨V.sb,0,none⟩),.int .i64 (fn:Int),.agg #[.bool a.c,.int .i64 (a.n:Int)],.agg #[.int .u8 n.k,.int .i64 n.a,.int .i64 n.b]] w (zoa B fb wf V (zb8 st fn a n) out w):=by
 have hb1:Below w.heap.size w ((w.alloc (.cells #[.bool a.c,.int .i64 (a.n:Int)] 306)).alloc (.cells #[.int .u8 n.k,.int .i64 n.a,.int .i64 n.b] 419)):=((Below.refl _ _).alloc (Nat.le_refl _) _).alloc (by simp) _
 cases hc:a.c
 ·have HE:=zH (zih B fb wf V st out (loc fn a.n) n _ (h.below hb1) ⟨by show 108<256;omega,hf,by show -1000000<(a.n:Int);omega,by show(a.n:Int)<1000000;omega⟩ hn)
  have HM:=zH (show zb8 st fn a n=zbd st (loc fn a.n) n by unfold zb8;rw[hc];rfl)
  rw[hc]at hb1 HE
  have HB:=zH hb1
  clear h hb1
  go_enter Tryz.func278,Tryz.ntmps278
  go_wp2_with fail
  refine HE.out.mono ?_
  rintro e w' ⟨rfl,h1,h2⟩
  have FIN:=zH (show zoa B fb wf V (zb8 st fn a n) out w (.returned (.tuple #[])) w' from⟨rfl,by rw[HM.out];exact h1,(EdFr.below HB.out).trans h2⟩)
  clear h1 h2
  go_wp2_with fail
  first | go_end0 | refine bodyPost_ret (results_none rfl _ _ _) rfl ?_
  exact FIN.out
 ·have FIN:=zH (show zoa B fb wf V (zb8 st fn a n) out w (.returned (.tuple #[])) ((w.alloc (.cells #[.bool a.c,.int .i64 (a.n:Int)] 306)).alloc (.cells #[.int .u8 n.k,.int .i64 n.a,.int .i64 n.b] 419))from⟨rfl,by
   have e:zb8 st fn a n=st:=by unfold zb8;rw[hc];rfl
   rw[e];exact h.below hb1,EdFr.below hb1⟩)
  rw[hc]at FIN
  clear h hb1
  go_enter Tryz.func278,Tryz.ntmps278
  go_wp2_with fail
  first | go_end0 | refine bodyPost_ret (results_none rfl _ _ _) rfl ?_
  exact FIN.out
def argO (st:PS)(fn:Nat)(a:Ar):Nat:=if a.c then 0 else st.ho (loc fn a.n)
def argT (st:PS)(fn:Nat)(a:Ar):Nat:=if a.c then 0 else st.ht (loc fn a.n)
def zqt (st:PS)(fn:Nat)(a:Ar)(w:World)(e:Ending)(w':World):Prop:=e=.returned (.agg #[zaa (argO st fn a),zaa (argT st fn a)])∧Below w.heap.size w w'
theorem zl0 (B fb:Nat)(wf:World)(V:PtV)(st:PS)(out:Nat)(fn:Nat)(a:Ar)(w:World)(h:PtAt B fb wf V st out w)(hf:fn<1000000)(ha:a.n<1000000) :
  Calls Tryz.prog 281 #[.pointer (some ⟨V.sb,0,none⟩),.int .i64 (fn:Int),.agg #[.bool a.c,.int .i64 (a.n:Int)]] w (zqt st fn a w):=by
 cases hc:a.c
 ·obtain⟨hon,hbs,mh,mt,mu,hm⟩:=h
  have hn:NdOk (loc fn a.n):=⟨by show 108<256;omega,hf,by show -1000000<(a.n:Int);omega,by show(a.n:Int)<1000000;omega⟩
  have hsc:=hm.s.cell
  unfold zeh at hsc
  have hsl:=hm.s.lt
  have hva:argO st fn a=st.ho (loc fn a.n)∧argT st fn a=st.ht (loc fn a.n):=by unfold argO argT;rw[hc];exact⟨rfl,rfl⟩
  have hsm:=hm.sm (loc fn a.n)
  have HL:=zH (show ∀ W',Below w.heap.size w W'→(∀ i,W'.cell? ⟨V.sb,i,none⟩=#[.pointer (some ⟨fb,0,none⟩),.map (some V.hb),.map (some V.tb),.map (some V.ub),zaa out][i]?)∧(Instr.lookup 378 (.map (some V.hb)) (.agg #[.int .u8 (108:Int),.int .i64 (fn:Int),.int .i64 (a.n:Int)]) false).run Tryz.prog W'=.ok (.agg #[zaa (argO st fn a),zaa (argT st fn a)]) W' from fun W' hb=>by
   have hm':=hm.kp (PtKp.below hb (Nat.le_refl _))
   refine⟨hm'.s.cell,?_⟩
   have hl:=hm'.h.lookup (t:=378) (e:=424) ze5 Tryz.underlying378 (z:=.agg #[zaa 0,zaa 0]) (Tryz.zeroValue424 W') hn false
   have hv:=hm.hv (loc fn a.n)
   have hl2:(Instr.lookup 378 (.map (some V.hb)) (.agg #[.int .u8 (108:Int),.int .i64 (fn:Int),.int .i64 (a.n:Int)]) false).run Tryz.prog W'=_:=hl
   rw[hl2,hva.1,hva.2]
   cases hg:mget mh (loc fn a.n)with
   | none=>rw[hg]at hv;simp only[Option.getD_none,Prod.mk.injEq]at hv;rw[← hv.1,← hv.2];rfl
   | some p=>rw[hg]at hv;simp only[Option.getD_some]at hv;rw[hv];rfl)
  clear hm hon hn hva hsm
  go_enter Tryz.func281,Tryz.ntmps281
  go_wp2_with fail
  have hb1:Below w.heap.size w ((w.alloc (.cells #[.bool false,.int .i64 (a.n:Int)] 306)).alloc (.cells #[zaa 0,zaa 0] 424)):=((Below.refl _ _).alloc (Nat.le_refl _) _).alloc (by simp) _
  have hba:Blk ((w.alloc (.cells #[.bool false,.int .i64 (a.n:Int)] 306)).alloc (.cells #[zaa 0,zaa 0] 424)) w.heap.size 306 #[.bool false,.int .i64 (a.n:Int)]:=(Blk.newAt rfl).alloc _
  have hbc:Blk ((w.alloc (.cells #[.bool false,.int .i64 (a.n:Int)] 306)).alloc (.cells #[zaa 0,zaa 0] 424)) (w.heap.size+1) 424 #[zaa 0,zaa 0]:=Blk.newAt (by simp)
  clear hsc hsl
  refine zah 9 (fun W'=>(∀ i,W'.cell? ⟨V.sb,i,none⟩=#[.pointer (some ⟨fb,0,none⟩),.map (some V.hb),.map (some V.tb),.map (some V.ub),zaa out][i]?)∧(∀ i,W'.cell? ⟨w.heap.size,i,none⟩=#[.bool false,.int .i64 (a.n:Int)][i]?)∧(Instr.lookup 378 (.map (some V.hb)) (.agg #[.int .u8 (108:Int),.int .i64 (fn:Int),.int .i64 (a.n:Int)]) false).run Tryz.prog W'=.ok (.agg #[zaa (argO st fn a),zaa (argT st fn a)]) W') (by kernel_rfl) rfl rfl (by kernel_rfl) ?_
  simp only[List.take_succ_cons,List.take_zero]
  have hHeld:=(show(∀ i,(((w.alloc (.cells #[.bool false,.int .i64 (a.n:Int)] 306)).alloc (.cells #[zaa 0,zaa 0] 424))).drew.cell? ⟨V.sb,i,none⟩=#[.pointer (some ⟨fb,0,none⟩),.map (some V.hb),.map (some V.tb),.map (some V.ub),zaa out][i]?)∧(∀ i,(((w.alloc (.cells #[.bool false,.int .i64 (a.n:Int)] 306)).alloc (.cells #[zaa 0,zaa 0] 424))).drew.cell? ⟨w.heap.size,i,none⟩=#[.bool false,.int .i64 (a.n:Int)][i]?)∧(Instr.lookup 378 (.map (some V.hb)) (.agg #[.int .u8 (108:Int),.int .i64 (fn:Int),.int .i64 (a.n:Int)]) false).run Tryz.prog (((w.alloc (.cells #[.bool false,.int .i64 (a.n:Int)] 306)).alloc (.cells #[zaa 0,zaa 0] 424))).drew=.ok (.agg #[zaa (argO st fn a),zaa (argT st fn a)]) (((w.alloc (.cells #[.bool false,.int .i64 (a.n:Int)] 306)).alloc (.cells #[zaa 0,zaa 0] 424))).drew from⟨(HL.out _ hb1.drew).1,hba.drew.cell,(HL.out _ hb1.drew).2⟩)
  iterate 9(refine tk 0 rfl (by kernel_rfl) (fun _ _ _ h=>h) hHeld (fun w hSw=>by go_simp;try with_reducible rfl) (by simp only[pA,pB,pC,pD,pE,pF,pG,pH];exact rfl) ?_)
  have hbcd:=hbc.drew
  refine lst (by kernel_rfl) rfl fun K hK=>?_
  go_simp
  refine hK _ _ ?_
  clear hK K hHeld HL
  go_wp2_with fail
  exact bodyPost_ret (v:=.agg #[zaa (argO st fn a),zaa (argT st fn a)]) (by simp[results,Tryz.results281,go_sem]) rfl ⟨rfl,(((Below.refl _ _).alloc (Nat.le_refl _) _).alloc (by simp) _).drew⟩
 ·have hva:argO st fn a=0∧argT st fn a=0:=by unfold argO argT;rw[hc];exact⟨rfl,rfl⟩
  have FIN:=zH (show ∀ w',Below w.heap.size w w'→zqt st fn a w (.returned (.agg #[zaa 0,zaa 0])) w' from fun w' hb=>⟨by rw[hva.1,hva.2],hb⟩)
  clear h hva
  go_enter Tryz.func281,Tryz.ntmps281
  go_wp2_with fail
  exact bodyPost_ret (v:=.agg #[zaa 0,zaa 0]) (by simp[results,Tryz.results281,go_sem]) rfl (FIN.out _ (((Below.refl _ _).alloc (Nat.le_refl _) _).alloc (by simp) _))
end
end Go.Proofs.YtkmcihhndgdhpaaGreat
