/- RpG Pl: parts of the walk. -/
import Derived.Test.YtkmcihhndgdhpaaGreatWB6
import Derived.Test.YtkmcihhndgdhpaaGreatWB9
import Derived.Test.YtkmcihhndgdhpaaGreatWC1
import Derived.Deep.MidRow
set_option maxRecDepth 100000
set_option maxHeartbeats 4000000
set_option linter.unusedSimpArgs false
set_option linter.unusedVariables false
namespace Go.Proofs.YtkmcihhndgdhpaaGreat
section
open Go.RowKit Go.Maps Go.ChangeMaps Go.Shelf
set_option linter.unusedSimpArgs false
def accM (on:Nat→Bool):List In→Nat→List Nat
 | [],_=>[]
 | i::r,k=>(if on k&&decide (2≤i.op)&&decide (i.op≤5)then [k]else [])++accM on r (k+1)
def zf5 (q:Nat→Nat→Option Rp):List Nat→List Rp
 | []=>[]
 | a::r=>(a::r).filterMap (q a)++zf5 q r
noncomputable def zk8 (P:Pr)(st:PS)(x:Nat)(f:LF)(a b:Nat):Option Rp :=
 match P.code[a]?,P.code[b]? with
 | some ia,some ib=>zj8 P st x f a b ia ib
 | _,_=>none
noncomputable def allM (P:Pr)(st:PS)(x:Nat)(f:LF):List Rp:=zf5 (zk8 P st x f) (accM (onB P) P.code 0)
def zij (P:Pr)(rs:List Rp):Prop:=∃ st x Bs f,PtsIs P st x∧(Bs.length=P.gos.length∧(∀ (s x:Nat),Bs[s]? = some x→x<2 ^ P.gos.length)∧∀ s j,za0 Bs s j=true↔BelP (zdb P) s j)∧LkIs P st Bs f∧rs=allM P st x f
def runY (stop:List Rp→Bool):List Rp→List Rp→List Rp
 | l,[]=>l
 | l,r::rs=>if stop (l++[r])then l++[r]else runY stop (l++[r]) rs
theorem zmf (on:Nat→Bool):∀ (l:List In) (k a:Nat),a ∈ accM on l k→∃ i,l[a-k]? = some i∧k≤a∧2≤i.op∧i.op≤5
 | [],_,_,h=>by simp[accM]at h
 | i::r,k,a,h=>by
  rw[accM,List.mem_append]at h
  rcases h with h | h
  ·split at h
   ·rename_i hc
    simp only[Bool.and_eq_true,decide_eq_true_eq]at hc
    obtain rfl:a=k:=by simpa using h
    exact⟨i,by simp,Nat.le_refl _,hc.1.2,hc.2⟩
   ·cases h
  ·obtain⟨j,h1,h2,h3⟩:=zmf on r (k+1) a h
   refine⟨j,?_,by omega,h3⟩
   rw[show a-k=(a-(k+1))+1 by omega]
   exact h1
structure zpb (yf:Nat)(first cap:Array Value)(N E:Nat)(stop:List Rp→Bool)(Inv:List Rp→World→Prop):Prop where
 enter:∀ (args:Array Value) (w:World),(callFunc yf args).run Tryz.prog w=.ok (.enter yf args) w
 low:∀ l W W',Inv l W→Below W.heap.size W W'→Inv l W'
 said:∀ l r W va vb,Inv l W→stop l=false→l.length≤200000→E≤W.heap.size→W.ownsRow E 3 1 va r.la.length (ints r.la)→W.ownsRow E 3 1 vb r.lb.length (ints r.lb) →
  Calls Tryz.prog yf (first.push (.agg (zbt r va vb))++cap) W fun e w'=>e=.returned (.bool (!stop (l++[r])))∧Inv (l++[r]) w'∧Yk N E W w'
def zme (P:Pr)(N E:Nat)(stop:List Rp→Bool)(Inv:List Rp→World→Prop)(w:World)(e:Ending)(w':World):Prop :=
 e=.returned (.tuple #[])∧Yk N E w w'∧∃ rs,zij P rs∧Inv (runY stop [] rs) w'
def AtR (P:Pr)(M:List Nat)(wj:World)(gk:Nat)(v6 v32:Value)(W:World):Prop :=
 ∃ (k:Nat) (l:List Nat),v32=.int .i64 k∧gk=P.code.length-k∧k≤P.code.length∧W.ownsRow wj.heap.size 3 1 v6 l.length (ints l)∧l.length≤k∧Below wj.heap.size wj W∧l++accM (onB P) (P.code.drop k) k=M
structure YkI (N E:Nat)(stop:List Rp→Bool)(Inv:List Rp→World→Prop)(wj:World)(vat:Value)(at_:List Nat)(l:List Rp)(W:World):Prop where
 i:Inv l W
 s:stop l=false
 y:Yk N E wj W
 r:W.ownsRow wj.heap.size 3 1 vat at_.length (ints at_)
theorem YkI.below {N E:Nat}{stop:List Rp→Bool}{Inv:List Rp→World→Prop}{wj:World}{vat:Value}{at_:List Nat}{l:List Rp}{W W':World}(h:YkI N E stop Inv wj vat at_ l W)(hl:∀ l W W',Inv l W→Below W.heap.size W W'→Inv l W')(hb:Below W.heap.size W W'):YkI N E stop Inv wj vat at_ l W' :=
 ⟨hl _ _ _ h.i hb,h.s,h.y.trans (Yk.of_below hb),zbz h.r hb fun k e=>(h.r.lt k e).2⟩
def YR (N E:Nat)(stop:List Rp→Bool)(Inv:List Rp→World→Prop)(wj:World)(q:Nat→Nat→Option Rp)(vat:Value)(at_:List Nat)(M:List Rp)(gk:Nat)(v60:Value)(W:World):Prop :=
 ∃ (i:Nat) (l:List Rp),v60=.int .i64 i∧gk=at_.length-i∧i≤at_.length∧YkI N E stop Inv wj vat at_ l W∧l.length≤i*300∧runY stop l (zf5 q (at_.drop i))=M
def ZR (N E:Nat)(stop:List Rp→Bool)(Inv:List Rp→World→Prop)(wj:World)(q:Nat→Nat→Option Rp)(vat:Value)(at_:List Nat)(M:List Rp)(i a:Nat)(gk:Nat)(v69:Value)(W:World):Prop :=
 ∃ (j:Nat) (l:List Rp),v69=.int .i64 j∧gk=at_.length-i-j∧j≤at_.length-i∧YkI N E stop Inv wj vat at_ l W∧l.length≤i*300+j∧runY stop l ((at_.drop (i+j)).filterMap (q a)++zf5 q (at_.drop (i+1)))=M
theorem zqv (C:AX)(hc:AXok C)(hwr:WfRp C.P)(hwl:WfLk C.P)(hio:∀ (k:Nat) (i:In),C.P.code[k]? = some i→InOk i)(w:World)(hon:C.on w)(cp:Nat)(hcp:Blk w cp 158 #[.pointer (some ⟨C.pb,0,none⟩)])
  (yf:Nat) (first cap:Array Value) (stop:List Rp→Bool) (Inv:List Rp→World→Prop) (Y:zpb yf first cap C.w0.heap.size w.heap.size stop Inv) (hI:Inv [] w) (hs:stop []=false) :
  Calls Tryz.prog 150 #[.func (.func yf) first cap,.pointer (some ⟨cp,0,none⟩)] w (zme C.P C.w0.heap.size w.heap.size stop Inv w):=by
 have hc1:AXok (C.at_ w):=hc.at_ hon
 have hcl:=hc.wf.cl
 have HY:=zH Y
 have HI0:=zH (And.intro hI hs)
 have HCP:=zH hcp
 have HON:=zH hon
 have hcpc:w.cell? ⟨cp,0,none⟩=some (.pointer (some ⟨C.pb,0,none⟩)):=hcp.cell 0
 have hcpl:=hcp.lt
 have HIO:=zH hio
 have HWL:=zH hwl
 have HWR:=zH hwr
 have HFL:=zH (zwd (C.at_ w) hc1 w (Below.refl _ _))
 clear Y hI hs hcp hon hio hwl hwr
 go_enter Tryz.func150,Tryz.ntmps150
 go_wp2_with fail
 refine HFL.out.mono ?_
 rintro e w1 ⟨VF,Rs,Bs,rfl,hF,hb1,_⟩
 have HF:=zH hF
 have HB1:=zH hb1
 have HPT:=zH (zx6 (C.at_ w) w1 VF Rs Bs hF HIO.out)
 clear hF hb1 hcpc
 go_wp2_with fail
 refine HPT.out.mono ?_
 rintro e w2 ⟨VP,st,x,rfl,hP,hPI,hb2⟩
 have HP:=zH hP
 have HPI:=zH hPI
 have HB2:=zH hb2
 have HB2w:=zH (HB1.out.trans (hb2.mono HB1.out.size))
 clear hP hPI hb2
 go_wp2_with fail
 have hcp2:=HCP.out.below HB2w.out.drew HCP.out.lt
 have hHeld:w2.drew.cell? ⟨cp,0,none⟩=some (.pointer (some ⟨C.pb,0,none⟩)):=hcp2.cell 0
 refine zah 8 (fun(W':World)=>W'.cell? ⟨cp,0,none⟩=some (.pointer (some ⟨C.pb,0,none⟩))) (by kernel_rfl) rfl rfl (by kernel_rfl) ?_
 simp only[List.take_succ_cons,List.take_zero]
 iterate 5(refine tk 0 rfl (by kernel_rfl) (fun _ _ _ h=>h) hHeld (fun w hSw=>by go_simp;try with_reducible rfl) (by simp only[pA,pB,pC,pD,pE,pF,pG,pH];exact rfl) ?_)
 refine rdy 5 (by kernel_rfl) rfl fun K hK=>?_
 go_simp
 have HLK:=zH (zu0 (C.at_ w) w2.drew VF Rs Bs w1 VP st x ⟨⟨((HF.out.below HB2.out (Nat.le_refl _)).below (Below.refl _ w2).drew (Nat.le_refl _)),HWL.out⟩,HP.out.below (Below.refl _ _).drew⟩)
 refine HLK.out.mono ?_
 rintro e w3 ⟨V,f,rfl,hk,hkI,hb3⟩
 have hb23:Below w2.heap.size w2 w3:=(Below.refl _ w2).drew.trans hb3
 have HB3:=zH (HB2w.out.trans (hb23.mono HB2w.out.size))
 have HK3:=zH hk
 have HKI:=zH hkI
 have HB23:=zH hb23
 refine hK.out _ _ ((HCP.out.below HB3.out HCP.out.lt).cell 0) (fun hHeld=>?_)
 clear hK K hk hkI hb3 hb23
 refine tk 6 rfl (by kernel_rfl) (fun _ _ _ h=>h) hHeld (fun w hSw=>by go_simp;try with_reducible rfl) (by simp only[pA,pB,pC,pD,pE,pF,pG,pH];exact rfl) ?_
 refine rdy 7 (by kernel_rfl) rfl fun K hK=>?_
 go_simp
 have hb4:Below w3.heap.size w3 (w3.alloc (.cells #[.pointer (some ⟨C.pb,0,none⟩),.pointer (some ⟨VF.fb,0,none⟩),.pointer (some ⟨VP.sb,0,none⟩),.pointer (some ⟨V.xb,0,none⟩)] 304)):=(Below.refl _ _).alloc (Nat.le_refl _) _
 have HB4:=zH (HB3.out.trans (hb4.mono HB3.out.size))
 have HJB:=zH (show Blk (w3.alloc (.cells #[.pointer (some ⟨C.pb,0,none⟩),.pointer (some ⟨VF.fb,0,none⟩),.pointer (some ⟨VP.sb,0,none⟩),.pointer (some ⟨V.xb,0,none⟩)] 304)) w3.heap.size 304 #[.pointer (some ⟨C.pb,0,none⟩),.pointer (some ⟨VF.fb,0,none⟩),.pointer (some ⟨VP.sb,0,none⟩),.pointer (some ⟨V.xb,0,none⟩)]from Blk.newAt rfl)
 have HB34:=zH hb4
 refine hK.out _ _ ((HCP.out.below HB4.out HCP.out.lt).cell 0) (fun hHeld=>?_)
 clear hK K hb4
 refine lst (by kernel_rfl) rfl fun K hK=>?_
 go_simp
 refine hK _ _ ?_
 clear hK K hHeld
 generalize w3.alloc (.cells #[.pointer (some ⟨C.pb,0,none⟩),.pointer (some ⟨VF.fb,0,none⟩),.pointer (some ⟨VP.sb,0,none⟩),.pointer (some ⟨V.xb,0,none⟩)] 304)=wj at HB4 HJB HB34 ⊢
 have HFj:=zH (((HF.out.below HB2.out (Nat.le_refl _)).below HB23.out (Nat.le_refl _)).below HB34.out (Nat.le_refl _))
 have hreps:∃ q at_ jb,zij C.P (zf5 q at_)∧at_=accM (onB C.P) C.P.code 0∧jb=w3.heap.size∧(∀ W,Yk C.w0.heap.size w.heap.size wj W→W.cell? ⟨VF.fb,1,none⟩=some (.map (some VF.onb))∧MkE W VF.onb (onB C.P)) ∧
   ∀ W,Yk C.w0.heap.size w.heap.size wj W→∀ a b,a ∈ at_→b ∈ at_→Calls Tryz.prog 155 #[.pointer (some ⟨jb,0,none⟩),.int .i64 (a:Int),.int .i64 (b:Int)] W (zsm (q a b) W):=by
  obtain⟨J,e1,e2,e3,e4,e5,e6,hJ⟩:=jg_on hc HWR.out HON.out (x:=x) (st:=st) (f:=f) HFj.out (((HP.out.below HB23.out).below HB34.out)) (Nat.le_trans HON.out.size HB1.out.size) HPI.out.xs (HK3.out.below HB34.out) HJB.out
  refine⟨zk8 C.P st x f,accM (onB C.P) C.P.code 0,w3.heap.size,⟨st,x,Bs,f,HPI.out,⟨HF.out.bl,HF.out.small,HF.out.bel⟩,HKI.out,rfl⟩,rfl,rfl,fun W hW=>?_,fun W hW a b ha hb=>?_⟩
  ·have h:=(HFj.out.yk hc HON.out hW).f.h
   exact⟨h.cells.1 1,h.on⟩
  ·obtain⟨ia,hia,_,ha2,ha5⟩:=zmf _ _ _ _ ha
   obtain⟨ib,hib,_,hb2,hb5⟩:=zmf _ _ _ _ hb
   rw[Nat.sub_zero]at hia hib
   have hq:zk8 C.P st x f a b=zj8 C.P st x f a b ia ib:=by unfold zk8;rw[hia,hib]
   have key:=pair_any J W W a b ia ib (JgOn.yk hJ hW) (Below.refl _ _) (by rw[← e1];exact hia) (by rw[← e1];exact hib) ⟨ha2,ha5⟩ ⟨hb2,hb5⟩
   rw[← e1,← e2,← e3,← e4,← e5,← hq]at key
   exact key
 obtain⟨q,at_,jb,hR,hat,hjb,hfl,hpair⟩:=hreps
 rw[← hjb]
 have HR:=zH hR
 have HAT:=zH hat
 have HFLO:=zH hfl
 have HPAIR:=zH hpair
 have HJZ:=zH (show w.heap.size≤wj.heap.size from HB4.out.size)
 have ST:=zH (show AtR C.P at_ wj C.P.code.length (.slice none 0 0) (.int .i64 (0:Int)) wj from⟨0,[],rfl,rfl,Nat.zero_le _,World.ownsRow_nil _ _ _ _,Nat.le_refl _,Below.refl _ _,by rw[List.drop_zero,List.nil_append,hat]⟩)
 have HPR:=zH (fun(W:World) (hW:Below wj.heap.size wj W)=>hc.pcells (w:=W) ((HON.out.trans (HB4.out.mono HON.out.size)).trans (hW.mono (Nat.le_trans HON.out.size HJZ.out))))
 have HIC:=zH (fun(W:World) (hW:Below wj.heap.size wj W) (k:Nat) (i:In) (hi:C.P.code[k]? = some i)=>hc.icells (w:=W) ((HON.out.trans (HB4.out.mono HON.out.size)).trans (hW.mono (Nat.le_trans HON.out.size HJZ.out))) hi)
 have HCPJ:=zH (fun(W:World) (hW:Below wj.heap.size wj W)=>(HCP.out.below HB4.out HCP.out.lt).below hW (Nat.lt_of_lt_of_le HCP.out.lt HB4.out.size))
 clear hR hat hfl hpair hjb HF HP HPI HB1 HB2 HB2w HPT HFL HLK HB3 HK3 HKI HB23 HB34 HJB HFj hc1
 have hcpc:=(HCPJ.out _ (Below.refl _ _)).cell 0
 have hcpl:=(HCPJ.out _ (Below.refl _ _)).lt
 have hpc:=HPR.out _ (Below.refl _ _)
 go_wp2_with fail
 clear hcpc hcpl hpc
 go_loopg [6,32] C.P.code.length (fun gk v6 v32 wr=>AtR C.P at_ wj gk v6 v32 wr)
 case atStart=>exact ST.out
 case round =>
  obtain⟨k,l,rfl,hgk,hk,hr,hlk,hb,hM⟩:=hrel
  obtain⟨va,vc,rfl⟩:=zbx hr
  have HGK:=zH hgk
  have HRW:=zH hr
  have HBW:=zH hb
  have HM:=zH hM
  clear hgk hr hb hM
  by_cases hlt:k<C.P.code.length
  ·obtain⟨i,hi⟩:∃ i,C.P.code[k]? = some i:=⟨_,List.getElem?_eq_getElem hlt⟩
   obtain⟨aa,ac,hic,har,hkl⟩:=HIC.out wr HBW.out k i hi
   have i0:wr.cell? ⟨C.cg,k*14,none⟩=some (.int .i64 i.op):=hic 0 (by omega)
   have i1:wr.cell? ⟨C.cg,k*14+1,none⟩=some (.int .i64 i.place):=hic 1 (by omega)
   have i2:wr.cell? ⟨C.cg,k*14+2,none⟩=some (.int .i64 i.fn):=hic 2 (by omega)
   have i3:wr.cell? ⟨C.cg,k*14+3,none⟩=some (.int .i64 i.x):=hic 3 (by omega)
   have i4:wr.cell? ⟨C.cg,k*14+4,none⟩=some (.bool i.y.c):=hic 4 (by omega)
   have i5:wr.cell? ⟨C.cg,k*14+5,none⟩=some (.int .i64 i.y.n):=hic 5 (by omega)
   have i6:wr.cell? ⟨C.cg,k*14+6,none⟩=some (.bool i.z.c):=hic 6 (by omega)
   have i7:wr.cell? ⟨C.cg,k*14+7,none⟩=some (.int .i64 i.z.n):=hic 7 (by omega)
   have i8:wr.cell? ⟨C.cg,k*14+8,none⟩=some (.int .i64 i.bin):=hic 8 (by omega)
   have i9:wr.cell? ⟨C.cg,k*14+9,none⟩=some (.int .i64 i.var):=hic 9 (by omega)
   have i10:wr.cell? ⟨C.cg,k*14+10,none⟩=some (.int .i64 i.site):=hic 10 (by omega)
   have i11:wr.cell? ⟨C.cg,k*14+11,none⟩=some (.int .i64 i.call):=hic 11 (by omega)
   have i12:wr.cell? ⟨C.cg,k*14+12,none⟩=some (.slice aa i.args.length ac):=hic 12 (by omega)
   have i13:wr.cell? ⟨C.cg,k*14+13,none⟩=some (.int .i64 i.to):=hic 13 (by omega)
   have HMd:=zH (show l++((if onB C.P k&&decide (2≤i.op)&&decide (i.op≤5)then [k]else [])++accM (onB C.P) (C.P.code.drop (k+1)) (k+1))=at_ by rw[← HM.out,zcc hi,accM])
   have hbi:Below wr.heap.size wr (wr.alloc (.cells #[.int .i64 (i.op:Int),.int .i64 i.place,.int .i64 (i.fn:Int),.int .i64 i.x,.bool i.y.c,.int .i64 (i.y.n:Int),.bool i.z.c,.int .i64 (i.z.n:Int),.int .i64 (i.bin:Int),.int .i64 (i.var:Int),.int .i64 (i.site:Int),.int .i64 (i.call:Int),.slice aa i.args.length ac,.int .i64 (i.to:Int)] 309)):=(Below.refl _ _).alloc (Nat.le_refl _) _
   have hib:Blk (wr.alloc (.cells #[.int .i64 (i.op:Int),.int .i64 i.place,.int .i64 (i.fn:Int),.int .i64 i.x,.bool i.y.c,.int .i64 (i.y.n:Int),.bool i.z.c,.int .i64 (i.z.n:Int),.int .i64 (i.bin:Int),.int .i64 (i.var:Int),.int .i64 (i.site:Int),.int .i64 (i.call:Int),.slice aa i.args.length ac,.int .i64 (i.to:Int)] 309)) wr.heap.size 309 #[.int .i64 (i.op:Int),.int .i64 i.place,.int .i64 (i.fn:Int),.int .i64 i.x,.bool i.y.c,.int .i64 (i.y.n:Int),.bool i.z.c,.int .i64 (i.z.n:Int),.int .i64 (i.bin:Int),.int .i64 (i.var:Int),.int .i64 (i.site:Int),.int .i64 (i.call:Int),.slice aa i.args.length ac,.int .i64 (i.to:Int)]:=Blk.newAt rfl
   have hBi:=HBW.out.trans (hbi.mono HBW.out.size)
   obtain⟨hfc,hon⟩:=HFLO.out _ (Yk.of_below hBi)
   clear hic hi HM har
   go_wp2_with fail
   refine(hasE _ VF.onb k (onB C.P) hon (by omega)).mono ?_
   rintro e w2 ⟨rfl,rfl⟩
   have hri:=zbz HRW.out hbi fun k e=>(HRW.out.lt k e).2
   obtain⟨ib,hibe⟩:∃ ib,ib=wr.heap.size:=⟨_,rfl⟩
   rw[← hibe]at hib ⊢
   generalize wr.alloc (.cells #[.int .i64 (i.op:Int),.int .i64 i.place,.int .i64 (i.fn:Int),.int .i64 i.x,.bool i.y.c,.int .i64 (i.y.n:Int),.bool i.z.c,.int .i64 (i.z.n:Int),.int .i64 (i.bin:Int),.int .i64 (i.var:Int),.int .i64 (i.site:Int),.int .i64 (i.call:Int),.slice aa i.args.length ac,.int .i64 (i.to:Int)] 309)=wi at hib hBi hri ⊢
   have HRI:=zH hri
   have HBI:=zH hBi
   have hibc:=hib.cell
   have hibl:=hib.lt
   clear i0 i1 i2 i3 i4 i5 i6 i7 i8 i9 i10 i11 i12 i13 hbi hfc hon hri hBi hibe hib
   cases honk:onB C.P k
   ·have REL:=zH (show AtR C.P at_ wj (C.P.code.length-(k+1)) (.slice va l.length vc) (.int .i64 ((k+1:Nat):Int)) wi from⟨k+1,l,rfl,rfl,by omega,HRI.out,by omega,HBI.out,by have:=HMd.out;rw[if_neg (by simp[honk])]at this;simpa using this⟩)
    clear honk
    go_wp2_with fail
    go_roundg (C.P.code.length-(k+1))
    case measure=>have:=HGK.out;omega
    case rel=>rw[show((k:Int)+1)=((k+1:Nat):Int) by omega];exact REL.out
   ·by_cases h2:2≤i.op
    ·have o2:(2:Int)≤(i.op:Int):=by omega
     by_cases h5:i.op≤5
     ·have o5:(i.op:Int)≤5:=by omega
      have HMe:=zH (show(l++[k])++accM (onB C.P) (C.P.code.drop (k+1)) (k+1)=at_ by have:=HMd.out;rw[if_pos (by simp[honk,h2,h5])]at this;simpa using this)
      clear honk h2 h5
      go_wp2_with (refine zhc zji rfl _ _ rfl wj.heap.size _ l.length (ints l) wi.heap.size _ _ (HRI.out.alloc _) (Blk.newAt rfl) rfl rfl rfl (by simp[Value.oneCell']) (by omega) (by have:=HBI.out.size;simp;omega) ?_;intro g5 c5 w5 hrow5 hg5 hat5)
      have hb5:Below wj.heap.size wj w5:=(HBI.out.alloc HBI.out.size _).grown hg5 (by have:=HBI.out.size;simp;omega) (fun k e=>(HRI.out.lt k e).1)
      have REL:=zH (show AtR C.P at_ wj (C.P.code.length-(k+1)) (.slice (some ⟨g5,0,none⟩) (l.length+1) c5) (.int .i64 ((k+1:Nat):Int)) w5 from
       ⟨k+1,l++[k],rfl,rfl,by omega,by simpa [ints] using hrow5,by simp;omega,hb5,HMe.out⟩)
      clear hb5 hrow5 hg5 hat5
      go_wp2_with fail
      go_roundg (C.P.code.length-(k+1))
      case measure=>have:=HGK.out;omega
      case rel=>rw[show((k:Int)+1)=((k+1:Nat):Int) by omega];exact REL.out
     ·have o5:¬ (i.op:Int)≤5:=by omega
      have REL:=zH (show AtR C.P at_ wj (C.P.code.length-(k+1)) (.slice va l.length vc) (.int .i64 ((k+1:Nat):Int)) wi from⟨k+1,l,rfl,rfl,by omega,HRI.out,by omega,HBI.out,by have:=HMd.out;rw[if_neg (by simp[h5])]at this;simpa using this⟩)
      clear h5
      go_wp2_with fail
      go_roundg (C.P.code.length-(k+1))
      case measure=>have:=HGK.out;omega
      case rel=>rw[show((k:Int)+1)=((k+1:Nat):Int) by omega];exact REL.out
    ·have o2:¬ (2:Int)≤(i.op:Int):=by omega
     have REL:=zH (show AtR C.P at_ wj (C.P.code.length-(k+1)) (.slice va l.length vc) (.int .i64 ((k+1:Nat):Int)) wi from⟨k+1,l,rfl,rfl,by omega,HRI.out,by omega,HBI.out,by have:=HMd.out;rw[if_neg (by simp[h2])]at this;simpa using this⟩)
     clear h2
     go_wp2_with fail
     go_roundg (C.P.code.length-(k+1))
     case measure=>have:=HGK.out;omega
     case rel=>rw[show((k:Int)+1)=((k+1:Nat):Int) by omega];exact REL.out
  ·obtain rfl:k=C.P.code.length:=by omega
   have hle:l=at_:=by rw[← HM.out,List.drop_length,accM,List.append_nil]
   subst hle
   obtain⟨Mf,hMf⟩:∃ Mf,Mf=runY stop [] (zf5 q l):=⟨_,rfl⟩
   have HBw:=zH (HB4.out.trans (HBW.out.mono HJZ.out))
   have ST2:=zH (show YR C.w0.heap.size w.heap.size stop Inv wj q (.slice va l.length vc) l Mf l.length (.int .i64 (0:Int)) wr from
    ⟨0,[],rfl,rfl,Nat.zero_le _,⟨HY.out.low _ _ _ HI0.out.1 HBw.out,HI0.out.2,Yk.of_below HBW.out,HRW.out⟩,Nat.zero_le _,by rw[List.drop_zero,hMf]⟩)
   have HMF:=zH hMf
   have hl3:l.length≤300:=by omega
   have hvc:l.length≤vc:=zow HRW.out
   clear hMf hlk hlt hk HM HGK
   go_wp2_with fail
   go_loopg [60] l.length (fun gk v60 wr=>YR C.w0.heap.size w.heap.size stop Inv wj q (.slice va l.length vc) l Mf gk v60 wr)
   case atStart=>exact ST2.out
   case round =>
    obtain⟨i,la,rfl,hgi,hi,hY,hla,hM⟩:=hrel
    have HGI:=zH hgi
    have HYI:=zH hY
    have HLA:=zH hla
    have HM:=zH hM
    clear hgi hY hla hM
    by_cases hlt:i<l.length
    ·obtain⟨a,ha⟩:∃ a,l[i]? = some a:=⟨_,List.getElem?_eq_getElem hlt⟩
     obtain⟨g,gc,hva,_,_⟩:=HYI.out.r.form (by omega)
     injection hva with e1 e2 e3
     subst e1
     have hca:wr.cell? ⟨g,i,none⟩=some (.int .i64 (a:Int)):=by rw[HYI.out.r.cellAt i (by omega)];simp[ints,ha]
     have HA:=zH ha
     have hivc:i<vc:=by omega
     clear ha e2 e3
     have ST3:=zH (show ZR C.w0.heap.size w.heap.size stop Inv wj q (.slice (some ⟨g,0,none⟩) l.length vc) l Mf i a (l.length-i) (.int .i64 (0:Int)) wr from
      ⟨0,la,rfl,rfl,Nat.zero_le _,HYI.out,HLA.out,by have:=HM.out;rw[zcc HA.out,zf5]at this;rw[Nat.add_zero,zcc HA.out];exact this⟩)
     go_wp2_with fail
     clear hca
     go_loopg [69] (l.length-i) (fun gk v69 wr=>ZR C.w0.heap.size w.heap.size stop Inv wj q (.slice (some ⟨g,0,none⟩) l.length vc) l Mf i a gk v69 wr)
     case atStart=>exact ST3.out
     case round =>
      obtain⟨j,lb,rfl,hgj,hj,hY2,hlb,hM2⟩:=hrel
      have HGJ:=zH hgj
      have HYJ:=zH hY2
      have HLB:=zH hlb
      have HM2:=zH hM2
      clear hgj hY2 hlb hM2
      by_cases hltj:j<l.length-i
      ·obtain⟨b,hb⟩:∃ b,l[i+j]? = some b:=⟨_,List.getElem?_eq_getElem (by omega)⟩
       have hcb:wr.cell? ⟨g,i+j,none⟩=some (.int .i64 (b:Int)):=by rw[HYJ.out.r.cellAt (i+j) (by omega)];simp[ints,hb]
       have HMd:=zH (show runY stop lb (([b].filterMap (q a)++(l.drop (i+(j+1))).filterMap (q a))++zf5 q (l.drop (i+1)))=Mf by have:=HM2.out;rw[zcc hb]at this;rw[← List.filterMap_append];exact this)
       have HP:=zH (HPAIR.out wr HYJ.out.y a b (List.mem_of_getElem? HA.out) (List.mem_of_getElem? hb))
       clear hb HM2
       go_wp2_with fail
       refine HP.out.mono ?_
       rintro e w5 ⟨hb5,he⟩
       have HB5:=zH hb5
       clear hcb
       cases hq:q a b with
       | none =>
        rw[hq]at he
        simp only[zbj]at he
        subst he
        have hb6:Below wr.heap.size wr (w5.alloc (.cells #[.int .i64 0,.int .i64 0,.int .i64 0,.int .i64 0,.int .i64 0,.int .i64 0,.slice none 0 0,.slice none 0 0] 69)):=hb5.alloc hb5.size _
        have REL:=zH (show ZR C.w0.heap.size w.heap.size stop Inv wj q (.slice (some ⟨g,0,none⟩) l.length vc) l Mf i a (l.length-i-(j+1)) (.int .i64 ((j+1:Nat):Int)) (w5.alloc (.cells #[.int .i64 0,.int .i64 0,.int .i64 0,.int .i64 0,.int .i64 0,.int .i64 0,.slice none 0 0,.slice none 0 0] 69))from
         ⟨j+1,lb,rfl,rfl,by omega,HYJ.out.below HY.out.low hb6,by have:=HLB.out;omega,by have:=HMd.out;simp only[List.filterMap_cons,hq,List.filterMap_nil,List.nil_append]at this;exact this⟩)
        clear hb6 hb5 hq
        go_wp2_with fail
        go_roundg (l.length-i-(j+1))
        case measure=>have:=HGJ.out;omega
        case rel=>rw[show((j:Int)+1)=((j+1:Nat):Int) by omega];exact REL.out
       | some r =>
        rw[hq]at he
        simp only at he
        obtain⟨v1,v2,he,hv1,hv2⟩:=he
        obtain⟨a1,c1,rfl⟩:=zbx hv1
        obtain⟨a2,c2,rfl⟩:=zbx hv2
        have HV:=zH (And.intro hv1 hv2)
        have eg:=HY.out.enter
        unfold zbt at he
        subst he
        have hb6:Below wr.heap.size wr (w5.alloc (.cells #[.int .i64 r.a,.int .i64 r.b,.int .i64 r.new,.int .i64 (r.field:Int),.int .i64 (r.ra:Int),.int .i64 (r.rb:Int),.slice a1 r.la.length c1,.slice a2 r.lb.length c2] 69)):=hb5.alloc hb5.size _
        have HEZ:=zH (show w.heap.size≤wr.heap.size from Nat.le_trans HJZ.out HYJ.out.y.size)
        have HY6:=zH (HYJ.out.below HY.out.low hb6)
        have HS:=zH (HY.out.said lb r (w5.alloc (.cells #[.int .i64 r.a,.int .i64 r.b,.int .i64 r.new,.int .i64 (r.field:Int),.int .i64 (r.ra:Int),.int .i64 (r.rb:Int),.slice a1 r.la.length c1,.slice a2 r.lb.length c2] 69)) (.slice a1 r.la.length c1) (.slice a2 r.lb.length c2) HY6.out.i HY6.out.s (by have:=HLB.out;omega) (Nat.le_trans HEZ.out hb6.size)
         (zbn (zbz hv1 ((Below.refl w5.heap.size w5).alloc (Nat.le_refl _) _) fun k e=>(hv1.lt k e).2) HEZ.out) (zbn (zbz hv2 ((Below.refl w5.heap.size w5).alloc (Nat.le_refl _) _) fun k e=>(hv2.lt k e).2) HEZ.out))
        clear hv1 hv2 hb6 hb5
        go_wp2_with fail
        refine HS.out.mono ?_
        rintro e w7 ⟨he,hI7,hy7⟩
        clear eg
        have hy70:=HY6.out.y.trans hy7
        cases hst:stop (lb++[r])
        ·rw[hst]at he
         simp only[Bool.not_false]at he
         subst he
         have REL:=zH (show ZR C.w0.heap.size w.heap.size stop Inv wj q (.slice (some ⟨g,0,none⟩) l.length vc) l Mf i a (l.length-i-(j+1)) (.int .i64 ((j+1:Nat):Int)) w7 from
          ⟨j+1,lb++[r],rfl,rfl,by omega,⟨hI7,hst,hy70,zli HY6.out.r hy7 HJZ.out (by decide)⟩,by have:=HLB.out;simp;omega,by have:=HMd.out;simp only[List.filterMap_cons,hq,List.filterMap_nil,List.cons_append,List.nil_append,runY,hst,Bool.false_eq_true,if_false]at this;exact this⟩)
         clear hq hst hI7 hy7 hy70
         go_wp2_with fail
         go_roundg (l.length-i-(j+1))
         case measure=>have:=HGJ.out;omega
         case rel=>rw[show((j:Int)+1)=((j+1:Nat):Int) by omega];exact REL.out
        ·rw[hst]at he
         simp only[Bool.not_true]at he
         subst he
         have hMe:Mf=lb++[r]:=by
          have:=HMd.out
          simp only[List.filterMap_cons,hq,List.filterMap_nil,List.cons_append,List.nil_append,runY,hst,if_true]at this
          exact this.symm
         have FIN:=zH (show zme C.P C.w0.heap.size w.heap.size stop Inv w (.returned (.tuple #[])) w7 from⟨rfl,(Yk.of_below HB4.out).trans hy70,_,HR.out,by rw[← HMF.out,hMe];exact hI7⟩)
         clear hq hst hI7 hy7 hy70 hMe
         go_wp2_with fail
         first | go_end0 | refine bodyPost_ret (results_none rfl _ _ _) rfl ?_
         exact FIN.out
      ·obtain rfl:j=l.length-i:=by omega
       have REL:=zH (show YR C.w0.heap.size w.heap.size stop Inv wj q (.slice (some ⟨g,0,none⟩) l.length vc) l Mf (l.length-(i+1)) (.int .i64 ((i+1:Nat):Int)) wr from
        ⟨i+1,lb,rfl,rfl,by omega,HYJ.out,by have:=HLB.out;omega,by have:=HM2.out;rw[show i+(l.length-i)=l.length by omega,List.drop_length]at this;simpa using this⟩)
       clear HM2
       go_wp2_with fail
       go_roundg (l.length-(i+1))
       case measure=>have:=HGI.out;omega
       case rel=>rw[show((i:Int)+1)=((i+1:Nat):Int) by omega];exact REL.out
    ·obtain rfl:i=l.length:=by omega
     have hMe:Mf=la:=by
      have:=HM.out
      rw[List.drop_length]at this
      simpa [zf5,runY] using this.symm
     have FIN:=zH (show zme C.P C.w0.heap.size w.heap.size stop Inv w (.returned (.tuple #[])) wr from⟨rfl,(Yk.of_below HB4.out).trans HYI.out.y,_,HR.out,by rw[← HMF.out,hMe];exact HYI.out.i⟩)
     clear hMe
     go_wp2_with fail
     first | go_end0 | refine bodyPost_ret (results_none rfl _ _ _) rfl ?_
     exact FIN.out
end
section
open Go.RowKit Go.Maps Go.ChangeMaps Go.Shelf
set_option linter.unusedSimpArgs false
theorem tyRps:zbl Tryz.prog 62 69 8 96:=zbl.mk' Tryz.underlying62 (z:=.agg zbj) (by kernel_rfl) rfl (by decide) (by decide)
def zfh:List Rp→List (Value×Value)→List Value
 | r::l,p::ps=>(zbt r p.1 p.2).toList++zfh l ps
 | _,_=>[]
theorem zqj:∀ {l:List Rp} {ps:List (Value×Value)},ps.length=l.length→∀ (r:Rp) (p:Value×Value),zfh (l++[r]) (ps++[p])=zfh l ps++(zbt r p.1 p.2).toList
 | [],[],_,r,p=>by simp[zfh]
 | [],_::_,h,_,_=>by simp at h
 | _::_,[],h,_,_=>by simp at h
 | a::l,q::ps,h,r,p=>by
  have:=zqj (l:=l) (ps:=ps) (by simpa using h) r p
  simp only[List.cons_append,zfh,this,List.append_assoc]
structure zel (W:World)(B:Nat)(v:Value)(l:List Rp)(ps:List (Value×Value)):Prop where
 n:ps.length=l.length
 r:W.ownsRow B 69 8 v l.length (zfh l ps)
 k:∀ (k:Nat) (r:Rp) (p:Value×Value),l[k]? = some r→ps[k]? = some p→W.ownsRow B 3 1 p.1 r.la.length (ints r.la)∧W.ownsRow B 3 1 p.2 r.lb.length (ints r.lb)
theorem zel.below {W W':World}{B N:Nat}{v:Value}{l:List Rp}{ps:List (Value×Value)}(h:zel W B v l ps)(hb:Below N W W')(hN:W.heap.size≤N):zel W' B v l ps :=
 ⟨h.n,zbz h.r hb fun k e=>Nat.lt_of_lt_of_le (h.r.lt k e).2 hN,fun k r p h1 h2=>⟨zbz (h.k k r p h1 h2).1 hb fun j e=>Nat.lt_of_lt_of_le ((h.k k r p h1 h2).1.lt j e).2 hN,zbz (h.k k r p h1 h2).2 hb fun j e=>Nat.lt_of_lt_of_le ((h.k k r p h1 h2).2.lt j e).2 hN⟩⟩
def zdc (lim:Int)(l:List Rp):Bool:=!l.isEmpty&&decide (lim≤(l.length:Int))
structure PlI (B:Nat)(lim:Int)(c8 c7 c6 c3:Nat)(l:List Rp)(W:World):Prop where
 s:Blk W c8 4 #[.bool (zdc lim l)]
 m:Blk W c7 3 #[.int .i64 0]
 o:∃ v ps,Blk W c6 62 #[v]∧zel W B v l ps
 t:Blk W c3 3 #[.int .i64 lim]
theorem PlI.below {B:Nat}{lim:Int}{c8 c7 c6 c3:Nat}{l:List Rp}{W W':World}(h:PlI B lim c8 c7 c6 c3 l W)(hb:Below W.heap.size W W'):PlI B lim c8 c7 c6 c3 l W':=by
 obtain⟨v,ps,ho,hr⟩:=h.o
 exact⟨h.s.below hb h.s.lt,h.m.below hb h.m.lt,⟨v,ps,ho.below hb ho.lt,hr.below hb (Nat.le_refl _)⟩,h.t.below hb h.t.lt⟩
theorem znz (lim:Int)(l:List Rp)(r:Rp):zdc lim (l++[r])=decide (lim≤(l.length:Int)+1):=by simp[zdc]
theorem Yk.set {N E g:Nat}{w:World}{t:TypeId}{cs:Array Value}(hb:Blk w g t cs)(hN:N≤g)(hE:g<E)(ht:t=3∨t=4∨t=62)(i:Nat)(u:Value):Yk N E w (w.setCell ⟨g,i,none⟩ u) :=
 ⟨rfl,rfl,rfl,by simp[World.setCell],fun k o hk hp=>by
  refine(Below.heap_setCell w ⟨g,i,none⟩ u k (fun e=>?_)).trans hk
  subst e
  unfold Blk at hb
  rw[hb]at hk
  injection hk with hk
  subst hk
  rcases hp with hp | hp
  ·have:k<N:=hp
   omega
  ·obtain⟨_,h2⟩:=hp t rfl
   obtain⟨h3,h4,h5⟩:=h2 hE
   rcases ht with ht | ht | ht
   ·exact h3 ht
   ·exact h4 ht
   ·exact h5 ht⟩
theorem Yk.grown {N E B size n:Nat}{w w':World}{v:Value}{xs:List Value}(hr:w.ownsRow B 69 size v n xs)(hB:N≤B)(hg:w.grownBy w' v.ownBlock):Yk N E w w' :=
 ⟨hg.os,hg.tape,hg.output,hg.size,fun k o hk hp=>by
  refine(hg.block k (lt_of_block hk) (fun e=>?_)).trans hk
  obtain⟨cs,hb⟩:=zba hr e.symm
  have hkB:=(hr.lt k e.symm).1
  unfold Blk at hb
  rw[hb]at hk
  injection hk with hk
  subst hk
  rcases hp with hp | hp
  ·omega
  ·exact(hp _ rfl).1 rfl⟩
theorem zxi (args:Array Value)(w:World):(callFunc 64 args).run Tryz.prog w=.ok (.enter 64 args) w:=enters_of Tryz.func64 (by kernel_rfl) rfl args w
theorem zxm (N E:Nat)(lim:Int)(c8 c7 c6 c3:Nat)(hN:N≤c8∧N≤c6)(hE:c8<E∧c7<E∧c6<E∧c3<E)(l:List Rp)(r:Rp)(W:World)(va vb:Value)(hI:PlI E lim c8 c7 c6 c3 l W)(hs:zdc lim l=false)(hl:l.length≤200000)(hEW:E≤W.heap.size)
  (ha:W.ownsRow E 3 1 va r.la.length (ints r.la)) (hb:W.ownsRow E 3 1 vb r.lb.length (ints r.lb)) :
  Calls Tryz.prog 64 #[.agg (zbt r va vb),.pointer (some ⟨c8,0,none⟩),.pointer (some ⟨c7,0,none⟩),.pointer (some ⟨c6,0,none⟩),.pointer (some ⟨c3,0,none⟩)] W fun e w'=>e=.returned (.bool (!zdc lim (l++[r])))∧PlI E lim c8 c7 c6 c3 (l++[r]) w'∧Yk N E W w':=by
 obtain⟨h8,h7,⟨v,ps,h6,hR⟩,h3⟩:=hI
 rw[hs]at h8
 obtain⟨a1,k1,rfl⟩:=zbx ha
 obtain⟨b1,k2,rfl⟩:=zbx hb
 obtain⟨v1,k3,rfl⟩:=zbx hR.r
 unfold zbt
 have H8:=zH h8
 have H7:=zH h7
 have H6:=zH h6
 have H3:=zH h3
 have HR:=zH hR
 have c8c:=h8.cell
 have c8l:=h8.lt
 have c6c:=h6.cell
 have c6l:=h6.lt
 have n86:c8≠c6:=h8.ne_ h6 (by decide)
 have n68:c6≠c8:=h6.ne_ h8 (by decide)
 have n36:c3≠c6:=h3.ne_ h6 (by decide)
 have n63:c6≠c3:=h6.ne_ h3 (by decide)
 have n38:c3≠c8:=h3.ne_ h8 (by decide)
 have n83:c8≠c3:=h8.ne_ h3 (by decide)
 have HA:=zH (And.intro ha hb)
 clear h8 h7 h6 h3 hR ha hb
 go_enter Tryz.func64,Tryz.ntmps64
 go_wp2_with (refine zhc tyRps rfl _ _ rfl E _ l.length (zfh l ps) (W.heap.size+1) _ (zbt r (.slice a1 r.la.length k1) (.slice b1 r.lb.length k2)) ((HR.out.r.alloc _).alloc _) (Blk.newAt (by simp)) rfl rfl rfl (by simp[zbt,Value.oneCell']) (by omega) (by simp;omega) ?_;intro g cap w5 hrow5 hg5 hat5;have k6:=((H6.out.alloc _).alloc _).append ((HR.out.r.alloc _).alloc _) hg5 (by decide);have k8:=((H8.out.alloc _).alloc _).append ((HR.out.r.alloc _).alloc _) hg5 (by decide);have k3:=((H3.out.alloc _).alloc _).append ((HR.out.r.alloc _).alloc _) hg5 (by decide);have k6c:=k6.cell;have k6f:=k6.frozen;have k6l:=k6.lt;have k8c:=k8.cell;have k8f:=k8.frozen;have k8l:=k8.lt;have k3c:=k3.cell;have k3l:=k3.lt;have k7:=((H7.out.alloc _).alloc _).append ((HR.out.r.alloc _).alloc _) hg5 (by decide))
 go_ret
 have hbA:Below W.heap.size W ((W.alloc (.cells #[.int .i64 r.a,.int .i64 r.b,.int .i64 r.new,.int .i64 (r.field:Int),.int .i64 (r.ra:Int),.int .i64 (r.rb:Int),.slice a1 r.la.length k1,.slice b1 r.lb.length k2] 69)).alloc (.cells #[.int .i64 r.a,.int .i64 r.b,.int .i64 r.new,.int .i64 (r.field:Int),.int .i64 (r.ra:Int),.int .i64 (r.rb:Int),.slice a1 r.la.length k1,.slice b1 r.lb.length k2] 69)):=((Below.refl _ _).alloc (Nat.le_refl _) _).alloc (by simp) _
 have n76:c7≠c6:=H7.out.ne_ H6.out (by decide)
 have n78:c7≠c8:=H7.out.ne_ H8.out (by decide)
 have hrow3:=(HR.out.r.alloc (.cells #[.int .i64 r.a,.int .i64 r.b,.int .i64 r.new,.int .i64 (r.field:Int),.int .i64 (r.ra:Int),.int .i64 (r.rb:Int),.slice a1 r.la.length k1,.slice b1 r.lb.length k2] 69)).alloc (.cells #[.int .i64 r.a,.int .i64 r.b,.int .i64 r.new,.int .i64 (r.field:Int),.int .i64 (r.ra:Int),.int .i64 (r.rb:Int),.slice a1 r.la.length k1,.slice b1 r.lb.length k2] 69)
 have k8b:=k8.far (p:=⟨c6,0,none⟩) n86 (.slice (some ⟨g,0,none⟩) (l.length+1) cap)
 have ints_:∀ {u:Value} {n:Nat} {xs:List Value},W.ownsRow E 3 1 u n xs→((w5.setCell ⟨c6,0,none⟩ (.slice (some ⟨g,0,none⟩) (l.length+1) cap)).setCell ⟨c8,0,none⟩ (.bool (decide (lim≤(l.length:Int)+1)))).ownsRow E 3 1 u n xs:=fun hr =>
  zaj (zaj (zhg hrow3 hg5 (by decide) (zbz hr hbA fun k e=>(hr.lt k e).2)) k6 (by decide) 0 _) k8b (by decide) 0 _
 rw[znz]
 refine⟨rfl,⟨?_,(k7.far (p:=⟨c6,0,none⟩) n76 _).far (p:=⟨c8,0,none⟩) n78 _,⟨_,ps++[(.slice a1 r.la.length k1,.slice b1 r.lb.length k2)],((k6.set_ 0 (.slice (some ⟨g,0,none⟩) (l.length+1) cap)).far (p:=⟨c8,0,none⟩) n68 _),?_⟩,(k3.far (p:=⟨c6,0,none⟩) n36 _).far (p:=⟨c8,0,none⟩) n38 _⟩,?_⟩
 ·rw[znz]
  exact(k8b.set_ 0 _).cast rfl
 ·refine⟨by simp[HR.out.n],?_,fun k q p h1 h2=>?_⟩
  ·rw[zqj HR.out.n,List.length_append]
   exact zaj (zaj hrow5 k6 (by decide) 0 _) k8b (by decide) 0 _
  ·rcases Nat.lt_or_ge k l.length with hk | hk
   ·rw[List.getElem?_append_left hk]at h1
    rw[List.getElem?_append_left (by rw[HR.out.n];exact hk)]at h2
    exact⟨ints_ (HR.out.k k q p h1 h2).1,ints_ (HR.out.k k q p h1 h2).2⟩
   ·have hk':k=l.length:=by
     have:=(List.getElem?_eq_some_iff.1 h1).1
     simp at this
     omega
    subst hk'
    simp at h1
    rw[← HR.out.n]at h2
    simp at h2
    subst h1 h2
    exact⟨ints_ HA.out.1,ints_ HA.out.2⟩
 ·exact((((Yk.of_below hbA).trans (Yk.grown hrow3 (by omega) hg5)).trans (Yk.set k6 hN.2 hE.2.2.1 (.inr (.inr rfl)) 0 _))).trans (Yk.set k8b hN.1 hE.1 (.inr (.inl rfl)) 0 _)
theorem zrw (N E:Nat)(lim:Int)(c8 c7 c6 c3:Nat)(hN:N≤c8∧N≤c6)(hE:c8<E∧c7<E∧c6<E∧c3<E) :
  zpb 64 #[] #[.pointer (some ⟨c8,0,none⟩),.pointer (some ⟨c7,0,none⟩),.pointer (some ⟨c6,0,none⟩),.pointer (some ⟨c3,0,none⟩)] N E (zdc lim) (PlI E lim c8 c7 c6 c3) :=
 ⟨zxi,fun _ _ _ h hb=>h.below hb,fun l r W va vb hI hs hl hEW ha hb=>zxm N E lim c8 c7 c6 c3 hN hE l r W va vb hI hs hl hEW ha hb⟩
def AllFn (pb:Nat)(w:World)(e:Ending)(w':World):Prop:=∃ cp,e=.returned (.func (.func 150) #[] #[.pointer (some ⟨cp,0,none⟩)])∧Blk w' cp 158 #[.pointer (some ⟨pb,0,none⟩)]∧Below w.heap.size w w'∧w.heap.size≤cp
theorem all_any (pb:Nat)(w:World):Calls Tryz.prog 108 #[.pointer (some ⟨pb,0,none⟩)] w (AllFn pb w):=by
 have hmf:∀ (fn:Fn) (first cap:Array Value) (w:World),(Instr.makeFunc fn first cap).run Tryz.prog w=.ok (.func fn first cap) w:=fun _ _ _ _=>rfl
 have FIN:=zH (show AllFn pb w (.returned (.func (.func 150) #[] #[.pointer (some ⟨w.heap.size,0,none⟩)])) (w.alloc (.cells #[.pointer (some ⟨pb,0,none⟩)] 158))from⟨_,rfl,Blk.newAt rfl,(Below.refl _ _).alloc (Nat.le_refl _) _,Nat.le_refl _⟩)
 go_enter Tryz.func108,Tryz.ntmps108
 go_wp2_with fail
 go_ret
 exact FIN.out
theorem zou (rp pb:Nat)(w:World)(h:Blk w rp 162 #[.pointer (some ⟨pb,0,none⟩)]):Calls Tryz.prog 63 #[.pointer (some ⟨rp,0,none⟩)] w (AllFn pb w):=by
 have hc:=h.cell
 have hl:=h.lt
 clear h
 go_enter Tryz.func63,Tryz.ntmps63
 go_wp2_with fail
 refine(all_any pb w).mono ?_
 rintro e w2 ⟨cp,rfl,h1,h2,h3⟩
 have FIN:=zH (show AllFn pb w (.returned (.func (.func 150) #[] #[.pointer (some ⟨cp,0,none⟩)])) w2 from⟨_,rfl,h1,h2,h3⟩)
 clear h1 h2 h3
 go_wp2_with fail
 go_ret
 exact FIN.out
structure WfAll (C:AX):Prop where
 c:AXok C
 r:WfRp C.P
 l:WfLk C.P
 io:∀ (k:Nat) (i:In),C.P.code[k]? = some i→InOk i
theorem zsw (args:Array Value)(w:World):(callFunc 150 args).run Tryz.prog w=.ok (.enter 150 args) w:=enters_of Tryz.func150 (by kernel_rfl) rfl args w
def zix (most:Int):Int:=if most<0 then 5000 else most
def zm7 (P:Pr)(most:Int)(w:World)(e:Ending)(w':World):Prop :=
 ∃ rs v ps,zij P rs∧e=.returned (.tuple #[v,.int .i64 0])∧zel w' w.heap.size v (runY (zdc (zix most)) [] rs) ps∧Below w.heap.size w w'
theorem zel.low {W:World}{B B':Nat}{v:Value}{l:List Rp}{ps:List (Value×Value)}(h:zel W B v l ps)(hB:B'≤B):zel W B' v l ps :=
 ⟨h.n,zbn h.r hB,fun k r p h1 h2=>⟨zbn (h.k k r p h1 h2).1 hB,zbn (h.k k r p h1 h2).2 hB⟩⟩
theorem zxs (C:AX)(hW:WfAll C)(w:World)(hon:C.on w)(pp rp:Nat)(most:Int)(hp:Blk w pp 82 #[.pointer (some ⟨rp,0,none⟩)])(hr:Blk w rp 162 #[.pointer (some ⟨C.pb,0,none⟩)]) :
  Calls Tryz.prog 28 #[.pointer (some ⟨pp,0,none⟩),.int .i64 most] w (zm7 C.P most w):=by
 have hmf:∀ (fn:Fn) (first cap:Array Value) (w:World),(Instr.makeFunc fn first cap).run Tryz.prog w=.ok (.func fn first cap) w:=fun _ _ _ _=>rfl
 have hpc:=hp.cell
 have hpl:=hp.lt
 have hpl1:pp<w.heap.size+1:=by omega
 have hpl2:pp<w.heap.size+1+1:=by omega
 have hpl3:pp<w.heap.size+1+1+1:=by omega
 have HRP:=zH hr
 have HON:=zH hon
 have HW:=zH hW
 clear hp hr hon hW
 cases hneg:decide (most<0)
 ·have hge:¬ most<0:=of_decide_eq_false hneg
  have HL:=zH (show zix most=most by unfold zix;rw[if_neg hge])
  go_enter Tryz.func28,Tryz.ntmps28
  go_wp2_with fail
  have hB4:Below w.heap.size w ((((w.alloc (.cells #[.int .i64 most] 3)).alloc (.cells #[.slice none 0 0] 62)).alloc (.cells #[.int .i64 0] 3)).alloc (.cells #[.bool false] 4)):=((((Below.refl _ _).alloc (Nat.le_refl _) _).alloc (by simp) _).alloc (by simp;omega) _).alloc (by simp;omega) _
  have k3:Blk ((((w.alloc (.cells #[.int .i64 most] 3)).alloc (.cells #[.slice none 0 0] 62)).alloc (.cells #[.int .i64 0] 3)).alloc (.cells #[.bool false] 4)) w.heap.size 3 #[.int .i64 most]:=(((Blk.newAt rfl).alloc _).alloc _).alloc _
  have k6:Blk ((((w.alloc (.cells #[.int .i64 most] 3)).alloc (.cells #[.slice none 0 0] 62)).alloc (.cells #[.int .i64 0] 3)).alloc (.cells #[.bool false] 4)) (w.heap.size+1) 62 #[.slice none 0 0]:=((Blk.newAt (by simp)).alloc _).alloc _
  have k7:Blk ((((w.alloc (.cells #[.int .i64 most] 3)).alloc (.cells #[.slice none 0 0] 62)).alloc (.cells #[.int .i64 0] 3)).alloc (.cells #[.bool false] 4)) (w.heap.size+1+1) 3 #[.int .i64 0]:=(Blk.newAt (by simp)).alloc _
  have k8:Blk ((((w.alloc (.cells #[.int .i64 most] 3)).alloc (.cells #[.slice none 0 0] 62)).alloc (.cells #[.int .i64 0] 3)).alloc (.cells #[.bool false] 4)) (w.heap.size+1+1+1) 4 #[.bool false]:=Blk.newAt (by simp)
  generalize (((w.alloc (.cells #[.int .i64 most] 3)).alloc (.cells #[.slice none 0 0] 62)).alloc (.cells #[.int .i64 0] 3)).alloc (.cells #[.bool false] 4)=w4 at hB4 k3 k6 k7 k8 ⊢
  clear hpc hpl hpl1 hpl2 hpl3
  refine(zou rp C.pb w4 (HRP.out.below hB4 HRP.out.lt)).mono ?_
  rintro e w5 ⟨cp,rfl,hcp,hb5,hle⟩
  have HB5:=zH (hB4.trans (hb5.mono hB4.size))
  have HI:=zH (show PlI w5.heap.size most (w.heap.size+1+1+1) (w.heap.size+1+1) (w.heap.size+1) w.heap.size [] w5 from⟨k8.below hb5 k8.lt,k7.below hb5 k7.lt,⟨.slice none 0 0,[],k6.below hb5 k6.lt,rfl,World.ownsRow_nil _ _ _ _,fun k r p h _=>by simp at h⟩,k3.below hb5 k3.lt⟩)
  have HALL:=zH (zqv (C.at_ w) (HW.out.c.at_ HON.out) HW.out.r HW.out.l HW.out.io w5 HB5.out cp hcp 64 #[] #[.pointer (some ⟨w.heap.size+1+1+1,0,none⟩),.pointer (some ⟨w.heap.size+1+1,0,none⟩),.pointer (some ⟨w.heap.size+1,0,none⟩),.pointer (some ⟨w.heap.size,0,none⟩)] (zdc most) (PlI w5.heap.size most (w.heap.size+1+1+1) (w.heap.size+1+1) (w.heap.size+1) w.heap.size)
   (zrw w.heap.size w5.heap.size most _ _ _ _ (by omega) (by have:=(k8.below hb5 k8.lt).lt;omega)) HI.out rfl)
  have eg:=zsw
  clear hcp hb5 hB4 k3 k6 k7 k8 hle
  go_wp2_with fail
  refine HALL.out.mono ?_
  rintro e w6 ⟨rfl,hy,rs,hRI,_,k7,⟨v,ps,k6,hRA⟩,_⟩
  obtain⟨va,vc,rfl⟩:=zbx hRA.r
  have FIN:=zH (show zm7 C.P most w (.returned (.tuple #[.slice va (runY (zdc most) [] rs).length vc,.int .i64 0])) w6.drew from⟨rs,_,ps,hRI,rfl,by rw[HL.out];exact(hRA.below (Below.refl _ w6).drew (Nat.le_refl _)).low HB5.out.size,(HB5.out.trans (hy.below HB5.out.size)).drew⟩)
  have hHeld:=And.intro (k6.drew.cell 0) (k7.drew.cell 0)
  clear hy hRI k7 k6 hRA eg
  go_wp2_with fail
  refine zah 3 (fun(W':World)=>W'.cell? ⟨w.heap.size+1,0,none⟩=some (.slice va (runY (zdc most) [] rs).length vc)∧W'.cell? ⟨w.heap.size+1+1,0,none⟩=some (.int .i64 0)) (by kernel_rfl) rfl rfl (by kernel_rfl) ?_
  simp only[List.take_succ_cons,List.take_zero]
  iterate 3(refine tk 0 rfl (by kernel_rfl) (fun _ _ _ h=>h) hHeld (fun w hSw=>by go_simp;try with_reducible rfl) (by simp only[pA,pB,pC,pD,pE,pF,pG,pH];exact rfl) ?_)
  refine lst (by kernel_rfl) rfl fun K hK=>?_
  go_simp
  refine hK _ _ ?_
  clear hK K hHeld
  go_wp2_with fail
  exact bodyPost_ret (v:=.tuple #[.slice va (runY (zdc most) [] rs).length vc,.int .i64 0]) (by simp[results,Tryz.results28,go_sem]) rfl FIN.out
 ·have hlt:most<0:=of_decide_eq_true hneg
  have HL:=zH (show zix most=5000 by unfold zix;rw[if_pos hlt])
  go_enter Tryz.func28,Tryz.ntmps28
  go_wp2_with fail
  have hB4:Below w.heap.size w ((((w.alloc (.cells #[.int .i64 5000] 3)).alloc (.cells #[.slice none 0 0] 62)).alloc (.cells #[.int .i64 0] 3)).alloc (.cells #[.bool false] 4)):=((((Below.refl _ _).alloc (Nat.le_refl _) _).alloc (by simp) _).alloc (by simp;omega) _).alloc (by simp;omega) _
  have k3:Blk ((((w.alloc (.cells #[.int .i64 5000] 3)).alloc (.cells #[.slice none 0 0] 62)).alloc (.cells #[.int .i64 0] 3)).alloc (.cells #[.bool false] 4)) w.heap.size 3 #[.int .i64 5000]:=(((Blk.newAt rfl).alloc _).alloc _).alloc _
  have k6:Blk ((((w.alloc (.cells #[.int .i64 5000] 3)).alloc (.cells #[.slice none 0 0] 62)).alloc (.cells #[.int .i64 0] 3)).alloc (.cells #[.bool false] 4)) (w.heap.size+1) 62 #[.slice none 0 0]:=((Blk.newAt (by simp)).alloc _).alloc _
  have k7:Blk ((((w.alloc (.cells #[.int .i64 5000] 3)).alloc (.cells #[.slice none 0 0] 62)).alloc (.cells #[.int .i64 0] 3)).alloc (.cells #[.bool false] 4)) (w.heap.size+1+1) 3 #[.int .i64 0]:=(Blk.newAt (by simp)).alloc _
  have k8:Blk ((((w.alloc (.cells #[.int .i64 5000] 3)).alloc (.cells #[.slice none 0 0] 62)).alloc (.cells #[.int .i64 0] 3)).alloc (.cells #[.bool false] 4)) (w.heap.size+1+1+1) 4 #[.bool false]:=Blk.newAt (by simp)
  generalize (((w.alloc (.cells #[.int .i64 5000] 3)).alloc (.cells #[.slice none 0 0] 62)).alloc (.cells #[.int .i64 0] 3)).alloc (.cells #[.bool false] 4)=w4 at hB4 k3 k6 k7 k8 ⊢
  clear hpc hpl hpl1 hpl2 hpl3
  refine(zou rp C.pb w4 (HRP.out.below hB4 HRP.out.lt)).mono ?_
  rintro e w5 ⟨cp,rfl,hcp,hb5,hle⟩
  have HB5:=zH (hB4.trans (hb5.mono hB4.size))
  have HI:=zH (show PlI w5.heap.size 5000 (w.heap.size+1+1+1) (w.heap.size+1+1) (w.heap.size+1) w.heap.size [] w5 from⟨k8.below hb5 k8.lt,k7.below hb5 k7.lt,⟨.slice none 0 0,[],k6.below hb5 k6.lt,rfl,World.ownsRow_nil _ _ _ _,fun k r p h _=>by simp at h⟩,k3.below hb5 k3.lt⟩)
  have HALL:=zH (zqv (C.at_ w) (HW.out.c.at_ HON.out) HW.out.r HW.out.l HW.out.io w5 HB5.out cp hcp 64 #[] #[.pointer (some ⟨w.heap.size+1+1+1,0,none⟩),.pointer (some ⟨w.heap.size+1+1,0,none⟩),.pointer (some ⟨w.heap.size+1,0,none⟩),.pointer (some ⟨w.heap.size,0,none⟩)] (zdc 5000) (PlI w5.heap.size 5000 (w.heap.size+1+1+1) (w.heap.size+1+1) (w.heap.size+1) w.heap.size)
   (zrw w.heap.size w5.heap.size 5000 _ _ _ _ (by omega) (by have:=(k8.below hb5 k8.lt).lt;omega)) HI.out rfl)
  have eg:=zsw
  clear hcp hb5 hB4 k3 k6 k7 k8 hle
  go_wp2_with fail
  refine HALL.out.mono ?_
  rintro e w6 ⟨rfl,hy,rs,hRI,_,k7,⟨v,ps,k6,hRA⟩,_⟩
  obtain⟨va,vc,rfl⟩:=zbx hRA.r
  have FIN:=zH (show zm7 C.P most w (.returned (.tuple #[.slice va (runY (zdc 5000) [] rs).length vc,.int .i64 0])) w6.drew from⟨rs,_,ps,hRI,rfl,by rw[HL.out];exact(hRA.below (Below.refl _ w6).drew (Nat.le_refl _)).low HB5.out.size,(HB5.out.trans (hy.below HB5.out.size)).drew⟩)
  have hHeld:=And.intro (k6.drew.cell 0) (k7.drew.cell 0)
  clear hy hRI k7 k6 hRA eg
  go_wp2_with fail
  refine zah 3 (fun(W':World)=>W'.cell? ⟨w.heap.size+1,0,none⟩=some (.slice va (runY (zdc 5000) [] rs).length vc)∧W'.cell? ⟨w.heap.size+1+1,0,none⟩=some (.int .i64 0)) (by kernel_rfl) rfl rfl (by kernel_rfl) ?_
  simp only[List.take_succ_cons,List.take_zero]
  iterate 3(refine tk 0 rfl (by kernel_rfl) (fun _ _ _ h=>h) hHeld (fun w hSw=>by go_simp;try with_reducible rfl) (by simp only[pA,pB,pC,pD,pE,pF,pG,pH];exact rfl) ?_)
  refine lst (by kernel_rfl) rfl fun K hK=>?_
  go_simp
  refine hK _ _ ?_
  clear hK K hHeld
  go_wp2_with fail
  exact bodyPost_ret (v:=.tuple #[.slice va (runY (zdc 5000) [] rs).length vc,.int .i64 0]) (by simp[results,Tryz.results28,go_sem]) rfl FIN.out
end
end Go.Proofs.YtkmcihhndgdhpaaGreat
