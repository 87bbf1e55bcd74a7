/- FlowA FlowB FlowC FlowD FlowE Norm Round RegG FlowF FlowG All Coll FlowH FlowI FlowJ: parts of the walk. -/
import Derived.Test.YtkmcihhndgdhpaaGreatWA6
import Derived.OrdersIn
import Derived.Shelf.Abstract
import Derived.Shelf.RegionOpen
import Derived.OwnWalkIn
import Derived.TacticsInMore
import Derived.LoopNIn
import Derived.LoopIn
set_option maxRecDepth 100000
set_option maxHeartbeats 4000000
set_option linter.unusedSimpArgs false
set_option linter.unusedVariables false
namespace Go.Proofs.YtkmcihhndgdhpaaGreat
section
open Go.RowKit Go.Maps
structure WfPr (P:Pr):Prop where
 cl:P.code.length≤300
 c1:1≤P.code.length
 fl:P.fs.length≤5
 nl:P.news.length≤6
 gl:P.gos.length≤5
 vl:P.nv≤5
 ml:P.nm≤3
 main:P.main<P.fs.length
 fn:∀ (k:Nat) (i:In),P.code[k]? = some i→i.fn<P.fs.length
 call:∀ (k:Nat) (i:In),P.code[k]? = some i→i.op=11∨i.op=7→∃ f:Fu,P.fs[i.call]? = some f∧i.args.length=f.params
 next:∀ (k:Nat) (i:In),P.code[k]? = some i→i.op≠12→i.op≠20→k+1<P.code.length
 jump:∀ (k:Nat) (i:In),P.code[k]? = some i→i.op=13∨i.op=14∨i.op=20→i.to<P.code.length
 from_:∀ (k:Nat) (f:Fu),P.fs[k]? = some f→f.from_<P.code.length∧f.to≤P.code.length
 gos:∀ (s k:Nat),P.gos[s]? = some k→∃ i:In,P.code[k]? = some i∧i.op=7∧i.site=s
 args:∀ (k:Nat) (i:In),P.code[k]? = some i→i.args.length≤3
structure AX where
 w0:World
 B:Nat
 pb:Nat
 P:Pr
 X:PV
 fg:Nat
 fcap:Nat
 cg:Nat
 ccap:Nat
structure AXok (C:AX):Prop where
 prog:zeu C.w0 C.B C.pb C.P C.X
 wf:WfPr C.P
 fsv:C.X.fsv=.slice (some ⟨C.fg,0,none⟩) C.P.fs.length C.fcap
 cv:C.X.cv=.slice (some ⟨C.cg,0,none⟩) C.P.code.length C.ccap
theorem zeu.ax {w:World}{B pb:Nat}{P:Pr}{X:PV}(h:zeu w B pb P X)(hw:WfPr P):∃ fg fcap cg ccap,AXok ⟨w,B,pb,P,X,fg,fcap,cg,ccap⟩:=by
 obtain⟨fg,fcap,h1,_,_⟩:=h.fr.form (Nat.lt_of_le_of_lt (Nat.zero_le _) hw.main)
 obtain⟨cg,ccap,h2,_,_⟩:=h.cr.form hw.c1
 exact⟨fg,fcap,cg,ccap,h,hw,h1,h2⟩
abbrev AX.on (C:AX)(w:World):Prop:=Below C.w0.heap.size C.w0 w
theorem zry:∀ {ags:List Value} {code:List In} {k:Nat} {a:Value} {i:In},ags[k]? = some a→code[k]? = some i→∀ j,j<14→(zcx ags code)[k*14+j]? = (zas i a)[j]?
 | [],_,k,a,i,h,_,_,_=>by simp at h
 | _::_,[],k,a,i,_,h,_,_=>by simp at h
 | b::ags,c::code,0,a,i,h,hi,j,hj=>by
  simp at h hi
  subst h hi
  show(zas c b++zcx ags code)[0*14+j]? = _
  rw[List.getElem?_append_left (by show _<14;omega),Nat.zero_mul,Nat.zero_add]
 | b::ags,c::code,k+1,a,i,h,hi,j,hj=>by
  show(zas c b++zcx ags code)[(k+1)*14+j]? = _
  rw[List.getElem?_append_right (by show 14≤_;omega),show(k+1)*14+j-(zas c b).length=k*14+j by show _-14=_;omega]
  exact zry (by simpa using h) (by simpa using hi) j hj
section
variable {C:AX} {w:World}
theorem AXok.pcells (h:AXok C)(hb:C.on w):∀ i,w.cell? ⟨C.pb,i,none⟩=#[.pointer (some ⟨C.X.tb,0,none⟩),.int .i64 C.P.nv,.int .i64 C.P.nm,.slice (some ⟨C.fg,0,none⟩) C.P.fs.length C.fcap,.slice (some ⟨C.cg,0,none⟩) C.P.code.length C.ccap,C.X.av,C.X.nv,C.X.gv,.int .i64 C.P.main][i]? := by
 have:=(h.prog.p.below hb h.prog.p.lt).cell
 unfold zmm at this
 rw[h.fsv,h.cv]at this
 exact this
theorem AXok.fcell (h:AXok C)(hb:C.on w){k:Nat}{f:Fu}(hf:C.P.fs[k]? = some f)(j:Nat)(hj:j<5):w.cell? ⟨C.fg,k*5+j,none⟩=(zcb f)[j]? := by
 have hr:=h.prog.fr
 rw[h.fsv]at hr
 have hlt:k<C.P.fs.length:=(List.getElem?_eq_some_iff.1 hf).1
 rw[hb.cell (p:=⟨C.fg,_,none⟩) (hr.lt C.fg rfl).2,hr.cellAt (k*5+j) (by omega),zj1 hf j hj]
theorem AXok.icells (h:AXok C)(hb:C.on w){k:Nat}{i:In}(hi:C.P.code[k]? = some i):∃ aa ac,(∀ j,j<14→w.cell? ⟨C.cg,k*14+j,none⟩=(zas i (.slice aa i.args.length ac))[j]?)∧zhe C.w0 C.B (.slice aa i.args.length ac) i.args∧k<C.P.code.length:=by
 have hr:=h.prog.cr
 rw[h.cv]at hr
 have hlt:k<C.P.code.length:=(List.getElem?_eq_some_iff.1 hi).1
 obtain⟨a,ha⟩:∃ a,C.X.ags[k]? = some a:=⟨_,List.getElem?_eq_getElem (by rw[h.prog.asl];exact hlt)⟩
 have har:=h.prog.ar k a i ha hi
 obtain⟨aa,ac,rfl⟩:=zat har
 refine⟨aa,ac,fun j hj=>?_,har,hlt⟩
 rw[hb.cell (p:=⟨C.cg,_,none⟩) (hr.lt C.cg rfl).2,hr.cellAt (k*14+j) (by omega),zry ha hi j hj]
end
def zg3 (k:Nat)(i:In):List Nat:=if i.op=12 then []else if i.op=20 then [i.to]else if i.op=13∨i.op=14 then [k+1,i.to]else [k+1]
def zap (P:Pr)(k:Nat):List Nat:=match P.code[k]? with | some i=>zg3 k i | none=>[]
theorem row_made {w W:World}{B g:Nat}{l:List Nat}(hb:Blk W g 3 (ints l).toArray)(hB:B≤g)(hl:l.length<1000000):W.ownsRow B 3 1 (.slice (some ⟨g,0,none⟩) l.length l.length) l.length (ints l) :=
 ⟨by simp,.inr ⟨g,l.length,(ints l).toArray,rfl,hB,hb,Nat.le_refl _,by unfold maxLen;omega,by simp,by simp[List.take_of_length_le]⟩⟩
theorem zdw.nil {w W:World}(hb:Below w.heap.size w W):zdw w [] (.returned (.slice none 0 0)) W:=⟨_,rfl,World.ownsRow_nil _ _ _ _,fun _=>rfl,hb⟩
theorem zdw.made {w W:World}{g:Nat}{l:List Nat}(hb:Blk W g 3 (ints l).toArray)(hB:w.heap.size≤g)(hl:l.length<1000000)(h1:1≤l.length)(hbl:Below w.heap.size w W):zdw w l (.returned (.slice (some ⟨g,0,none⟩) l.length l.length)) W :=
 ⟨_,rfl,row_made (w:=w) hb hB hl,fun h=>by omega,hbl⟩
theorem zkf (C:AX)(HC:AXok C)(w:World)(fb k:Nat)(i:In)(hon:C.on w)(hf:w.cell? ⟨fb,0,none⟩=some (.pointer (some ⟨C.pb,0,none⟩)))(hi:C.P.code[k]? = some i) :
  Calls Tryz.prog 219 #[.pointer (some ⟨fb,0,none⟩),.int .i64 (k:Int)] w (zdw w (zap C.P k)):=by
 obtain⟨aa,ac,hic,_,hkl⟩:=HC.icells hon hi
 have hp:=HC.pcells hon
 have hM:zap C.P k=zg3 k i:=by unfold zap;rw[hi]
 rw[hM]
 have hcl:=HC.wf.cl
 have i0:w.cell? ⟨C.cg,k*14,none⟩=some (.int .i64 i.op):=hic 0 (by omega)
 have i1:w.cell? ⟨C.cg,k*14+1,none⟩=some (.int .i64 i.place):=hic 1 (by omega)
 have i2:w.cell? ⟨C.cg,k*14+2,none⟩=some (.int .i64 i.fn):=hic 2 (by omega)
 have i3:w.cell? ⟨C.cg,k*14+3,none⟩=some (.int .i64 i.x):=hic 3 (by omega)
 have i4:w.cell? ⟨C.cg,k*14+4,none⟩=some (.bool i.y.c):=hic 4 (by omega)
 have i5:w.cell? ⟨C.cg,k*14+5,none⟩=some (.int .i64 i.y.n):=hic 5 (by omega)
 have i6:w.cell? ⟨C.cg,k*14+6,none⟩=some (.bool i.z.c):=hic 6 (by omega)
 have i7:w.cell? ⟨C.cg,k*14+7,none⟩=some (.int .i64 i.z.n):=hic 7 (by omega)
 have i8:w.cell? ⟨C.cg,k*14+8,none⟩=some (.int .i64 i.bin):=hic 8 (by omega)
 have i9:w.cell? ⟨C.cg,k*14+9,none⟩=some (.int .i64 i.var):=hic 9 (by omega)
 have i10:w.cell? ⟨C.cg,k*14+10,none⟩=some (.int .i64 i.site):=hic 10 (by omega)
 have i11:w.cell? ⟨C.cg,k*14+11,none⟩=some (.int .i64 i.call):=hic 11 (by omega)
 have i12:w.cell? ⟨C.cg,k*14+12,none⟩=some (.slice aa i.args.length ac):=hic 12 (by omega)
 have i13:w.cell? ⟨C.cg,k*14+13,none⟩=some (.int .i64 i.to):=hic 13 (by omega)
 clear hic hM hi
 unfold zg3
 by_cases h12:i.op=12
 ·rw[if_pos h12]
  have o1:((i.op:Int)==12)=true:=by rw[h12];rfl
  clear h12
  go_enter Tryz.func219,Tryz.ntmps219
  go_wp2_with fail
  go_ret
  exact .nil ((Below.refl _ _).alloc (Nat.le_refl _) _)
 have o1:((i.op:Int)==12)=false:=zai (by omega)
 rw[if_neg h12]
 clear h12
 by_cases h20:i.op=20
 ·rw[if_pos h20]
  have o2:((i.op:Int)==20)=true:=by rw[h20];rfl
  clear h20
  go_enter Tryz.func219,Tryz.ntmps219
  go_wp2_with fail
  go_ret
  exact .made (l:=[i.to]) (Blk.newAt (by simp)) (by simp) (by simp) (by simp) (((Below.refl _ _).alloc (Nat.le_refl _) _).alloc (by simp) _)
 have o2:((i.op:Int)==20)=false:=zai (by omega)
 rw[if_neg h20]
 clear h20
 have hk1:((k+1:Nat):Int)=(k:Int)+1:=by omega
 by_cases h13:i.op=13∨i.op=14
 ·rw[if_pos h13]
  rcases h13 with h13 | h13
  ·have o3:((i.op:Int)==13)=true:=by rw[h13];rfl
   clear h13
   have HK:=zH hk1
   clear hk1
   go_enter Tryz.func219,Tryz.ntmps219
   go_wp2_with fail
   go_ret
   exact .made (l:=[k+1,i.to]) (Blk.newAt (by simp)) (by simp) (by simp) (by simp) (((Below.refl _ _).alloc (Nat.le_refl _) _).alloc (by simp) _)
  ·have o3:((i.op:Int)==13)=false:=by rw[h13];rfl
   have o4:((i.op:Int)==14)=true:=by rw[h13];rfl
   clear h13
   have HK:=zH hk1
   clear hk1
   go_enter Tryz.func219,Tryz.ntmps219
   go_wp2_with fail
   go_ret
   exact .made (l:=[k+1,i.to]) (Blk.newAt (by simp)) (by simp) (by simp) (by simp) (((Below.refl _ _).alloc (Nat.le_refl _) _).alloc (by simp) _)
 ·have o3:((i.op:Int)==13)=false:=zai (by omega)
  have o4:((i.op:Int)==14)=false:=zai (by omega)
  rw[if_neg h13]
  clear h13
  have HK:=zH hk1
  clear hk1
  go_enter Tryz.func219,Tryz.ntmps219
  go_wp2_with fail
  go_ret
  exact .made (l:=[k+1]) (Blk.newAt (by simp)) (by simp) (by simp) (by simp) (((Below.refl _ _).alloc (Nat.le_refl _) _).alloc (by simp) _)
end
section
open Go.RowKit Go.Maps
set_option linter.unusedSimpArgs false
def zg9 (i:In):Bool:=decide (i.op=11)||decide (i.op=7)
theorem zpt (C:AX)(HC:AXok C)(w:World)(k:Nat)(i:In)(hon:C.on w)(hi:C.P.code[k]? = some i) :
  Calls Tryz.prog 220 #[.pointer (some ⟨C.cg,k*14,none⟩)] w fun e w'=>e=.returned (.bool (zg9 i))∧w=w':=by
 obtain⟨aa,ac,hic,_,hkl⟩:=HC.icells hon hi
 have i0:w.cell? ⟨C.cg,k*14,none⟩=some (.int .i64 i.op):=hic 0 (by omega)
 clear hic
 unfold zg9
 by_cases h11:i.op=11
 ·have o1:((i.op:Int)==11)=true:=by rw[h11];rfl
  have HO:=zH h11
  clear h11
  go_enter Tryz.func220,Tryz.ntmps220
  go_wp2_with fail
  go_ret
  exact⟨zdr (by rw[HO.out];rfl),rfl⟩
 ·have o1:((i.op:Int)==11)=false:=zai (by omega)
  by_cases h7:i.op=7
  ·have o2:((i.op:Int)==7)=true:=by rw[h7];rfl
   have HO:=zH h7
   clear h11 h7
   go_enter Tryz.func220,Tryz.ntmps220
   go_wp2_with fail
   go_ret
   exact⟨zdr (by rw[HO.out];rfl),rfl⟩
  ·have o2:((i.op:Int)==7)=false:=zai (by omega)
   have HO:=zH h7
   have HO2:=zH h11
   clear h11 h7
   go_enter Tryz.func220,Tryz.ntmps220
   go_wp2_with fail
   go_ret
   exact⟨zdr (by rw[decide_eq_false HO2.out,decide_eq_false HO.out];rfl),rfl⟩
def zdk (P:Pr)(k:Nat):List Nat:=match P.code[k]? with
 | some i=>zg3 k i++(if zg9 i then(match P.fs[i.call]? with | some f=>[f.from_] | none=>[])else [])
 | none=>[]
theorem zxc (C:AX)(HC:AXok C)(w:World)(fb vf vp k:Nat)(i:In)(hon:C.on w)(hf:w.cell? ⟨fb,0,none⟩=some (.pointer (some ⟨C.pb,0,none⟩)))(hvf:w.cell? ⟨vf,0,none⟩=some (.pointer (some ⟨fb,0,none⟩)))(hvp:w.cell? ⟨vp,0,none⟩=some (.pointer (some ⟨C.pb,0,none⟩)))(hi:C.P.code[k]? = some i)(hvpl:vp<w.heap.size) :
  Calls Tryz.prog 218 #[.int .i64 (k:Int),.pointer (some ⟨vf,0,none⟩),.pointer (some ⟨vp,0,none⟩)] w (zdw w (zdk C.P k)):=by
 have HN:=zH (zkf C HC w fb k i hon hf hi)
 have hkl:k<C.P.code.length:=(List.getElem?_eq_some_iff.1 hi).1
 have hcl:=HC.wf.cl
 have HI:=zH hi
 have HON:=zH hon
 have hM:=zH (show zdk C.P k=zap C.P k++(if zg9 i then(match C.P.fs[i.call]? with | some f=>[f.from_] | none=>[])else []) by unfold zdk zap;rw[hi])
 clear hi hf hon
 go_enter Tryz.func218,Tryz.ntmps218
 go_wp2_with fail
 refine HN.out.mono ?_
 rintro e w1 ⟨v,rfl,hrow,h0,hb1⟩
 have hon1:C.on w1:=HON.out.trans (hb1.mono HON.out.size)
 have hp:=HC.pcells hon1
 have hvp1:w1.cell? ⟨vp,0,none⟩=some (.pointer (some ⟨C.pb,0,none⟩)):=by rw[hb1.cell (p:=⟨vp,0,none⟩) hvpl];exact hvp
 have HR:=zH hrow
 have H0:=zH h0
 have HB1:=zH hb1
 have HON1:=zH hon1
 clear hrow h0 hb1 hon1 hvf
 go_wp2_with fail
 refine(zpt C HC w1 k i HON1.out HI.out).mono ?_
 rintro e w2 ⟨rfl,rfl⟩
 cases hen:zg9 i
 ·have FIN:=zH (show zdw w (zdk C.P k) (.returned v) w1 from⟨v,rfl,by rw[hM.out,hen];simpa using HR.out,fun h=>H0.out (by rw[hM.out,hen]at h;simpa using h),HB1.out⟩)
  clear hen
  go_wp2_with fail
  go_ret
  exact FIN.out
 ·have hcall:=HC.wf.call k i HI.out (by unfold zg9 at hen;simpa using hen)
  obtain⟨f,hf,_⟩:=hcall
  have hM2:=zH (show zdk C.P k=zap C.P k++[f.from_] by rw[hM.out,hen,hf];rfl)
  have hfc:w1.cell? ⟨C.fg,i.call*5+3,none⟩=some (.int .i64 f.from_):=HC.fcell HON1.out hf 3 (by omega)
  have hcl2:i.call<C.P.fs.length:=(List.getElem?_eq_some_iff.1 hf).1
  have hfl:=HC.wf.fl
  obtain⟨aa,ac,hic,_,_⟩:=HC.icells HON1.out HI.out
  have i11:w1.cell? ⟨C.cg,k*14+11,none⟩=some (.int .i64 i.call):=hic 11 (by omega)
  obtain⟨va,vc,hv⟩:=zbx HR.out
  subst hv
  have hln:(zap C.P k).length≤2:=by unfold zap;rw[HI.out];unfold zg3;simp only;split;simp;split;simp;split <;> simp
  have HSB:=zH (show ∀ w',Below w.heap.size w w'→w'.cell? ⟨vp,0,none⟩=some (.pointer (some ⟨C.pb,0,none⟩))∧(∀ j,w'.cell? ⟨C.pb,j,none⟩=#[.pointer (some ⟨C.X.tb,0,none⟩),.int .i64 C.P.nv,.int .i64 C.P.nm,.slice (some ⟨C.fg,0,none⟩) C.P.fs.length C.fcap,.slice (some ⟨C.cg,0,none⟩) C.P.code.length C.ccap,C.X.av,C.X.nv,C.X.gv,.int .i64 C.P.main][j]?)∧w'.cell? ⟨C.cg,k*14+11,none⟩=some (.int .i64 i.call)∧w'.cell? ⟨C.fg,i.call*5+3,none⟩=some (.int .i64 f.from_)from fun w' hb=>by
   have hon:=HON.out.trans (hb.mono HON.out.size)
   obtain⟨_,_,hic',_,_⟩:=HC.icells hon HI.out
   exact⟨by rw[hb.cell (p:=⟨vp,0,none⟩) hvpl];exact hvp,HC.pcells hon,hic' 11 (by omega),HC.fcell hon hf 3 (by omega)⟩)
  clear hen hf hic
  go_wp2_with fail
  refine zh0 14 (fun w'=>w'.cell? ⟨vp,0,none⟩=some (.pointer (some ⟨C.pb,0,none⟩))∧(∀ j,w'.cell? ⟨C.pb,j,none⟩=#[.pointer (some ⟨C.X.tb,0,none⟩),.int .i64 C.P.nv,.int .i64 C.P.nm,.slice (some ⟨C.fg,0,none⟩) C.P.fs.length C.fcap,.slice (some ⟨C.cg,0,none⟩) C.P.code.length C.ccap,C.X.av,C.X.nv,C.X.gv,.int .i64 C.P.main][j]?)∧w'.cell? ⟨C.cg,k*14+11,none⟩=some (.int .i64 i.call)∧w'.cell? ⟨C.fg,i.call*5+3,none⟩=some (.int .i64 f.from_)) (by kernel_rfl) rfl rfl (by kernel_rfl) ?_
  simp only[List.take_succ_cons,List.take_zero]
  have hHeld:=HSB.out w1.drew HB1.out.drew
  iterate 12(refine tk 0 rfl (by kernel_rfl) (fun _ _ _ h=>h) hHeld (fun w hSw=>by go_simp;try with_reducible rfl) (by simp only[pA,pB,pC,pD,pE,pF,pG,pH];exact rfl) ?_)
  refine rdy 12 (by kernel_rfl) rfl fun K hK=>?_
  go_simp
  have hB2:=zH ((HB1.out.drew).alloc (Nat.le_trans HB1.out.size (Nat.le_refl _)) (.cells #[.int .i64 (f.from_:Int)] 3))
  refine hK.out _ _ (HSB.out _ hB2.out) (fun hHeld=>?_)
  clear hK K
  refine rdy 13 (by kernel_rfl) rfl fun K hK=>?_
  refine zc5 zji rfl _ _ rfl w.heap.size _ (zap C.P k).length (ints (zap C.P k)) w1.heap.size _ _ ((HR.out.alloc _)) (Blk.newAt (w:=w1) rfl) rfl rfl rfl (by simp[Value.oneCell']) (by omega) (Nat.le_trans HB1.out.size (by simp)) ?_
  intro g cap w2 hrow2 hg2 hat2
  have HB2:=zH (hB2.out.grown hg2 (Nat.le_trans HB1.out.size (by simp)) (fun k e=>(HR.out.lt k e).1))
  have FIN:=zH (show zdw w (zdk C.P k) (.returned (.slice (some ⟨g,0,none⟩) ((zap C.P k).length+1) cap)) w2 from
   ⟨_,rfl,by rw[hM2.out,List.length_append];simpa [ints] using hrow2,fun h=>by rw[hM2.out]at h;simp at h,HB2.out⟩)
  refine hK.out _ _ (HSB.out _ HB2.out) (fun hHeld=>?_)
  clear hK K hrow2 hg2 hat2
  refine lst (by kernel_rfl) rfl fun K hK=>?_
  go_simp
  refine hK _ _ ?_
  clear hK K hHeld
  go_wp2_with fail
  go_ret
  exact FIN.out
end
section
open Go.RowKit Go.Maps
set_option linter.unusedSimpArgs false
def MkE (w:World)(b:Nat)(S:Nat→Bool):Prop:=∃ m,Mk w b S m
section
variable {w w':World} {b:Nat} {S:Nat→Bool}
theorem MkE.drewN (h:MkE w b S)(n:Nat):MkE (w.drewN n) b S:=by obtain⟨m,h⟩:=h;exact⟨m,h.is.drewN n,h.one,h.has⟩
theorem MkE.drew (h:MkE w b S):MkE w.drew b S:=by obtain⟨m,h⟩:=h;exact⟨m,h.is.drew,h.one,h.has⟩
theorem MkE.of_block (h:MkE w b S)(hb:w'.heap[b]? = w.heap[b]?):MkE w' b S:=by obtain⟨m,h⟩:=h;exact⟨m,h.of_block hb⟩
theorem MkE.lt (h:MkE w b S):b<w.heap.size:=by obtain⟨m,h⟩:=h;exact h.lt
theorem MkE.alloc (h:MkE w b S)(o:Obj):MkE (w.alloc o) b S:=h.of_block (Below.heap_alloc w o b h.lt)
theorem MkE.below {N:Nat}(h:MkE w b S)(hb:Below N w w')(hN:b<N):MkE w' b S:=h.of_block (hb.block b hN)
theorem MkE.far (h:MkE w b S){p:Addr}(hp:b≠p.block)(u:Value):MkE (w.setCell p u) b S:=h.of_block (Below.heap_setCell w p u b hp)
theorem MkE.cellFar (h:MkE w b S){g:Nat}{t:TypeId}{cs:Array Value}(hg:Blk w g t cs):b≠g:=by obtain⟨m,h⟩:=h;exact h.is.cellFar hg
theorem MkE.farB (h:MkE w b S){g:Nat}{t:TypeId}{cs:Array Value}(hg:Blk w g t cs)(i:Nat)(u:Value):MkE (w.setCell ⟨g,i,none⟩ u) b S:=h.far (h.cellFar hg) u
end
theorem hasE (w:World)(b k:Nat)(S:Nat→Bool)(h:MkE w b S)(hk:k<1000000) :
  Calls Tryz.prog 154 #[.map (some b),.int .i64 (k:Int)] w fun e w'=>e=.returned (.bool (S k))∧w=w':=by
 obtain⟨m,h⟩:=h
 exact zqs w b k S m h hk
structure FV where
 fb:Nat
 onb:Nat
 lob:Nat
 mab:Nat
 sv:Value
 rv:Value
 bv:Value
def ziq (C:AX)(V:FV):Array Value:=#[.pointer (some ⟨C.pb,0,none⟩),.map (some V.onb),V.sv,V.rv,V.bv,.map (some V.lob),.map (some V.mab)]
structure FlH (C:AX)(w:World)(V:FV)(on lo ma:Nat→Bool):Prop where
 c:AXok C
 onw:C.on w
 fB:C.w0.heap.size≤V.fb
 f:Blk w V.fb 314 (ziq C V)
 on:MkE w V.onb on
 lo:MkE w V.lob lo
 ma:MkE w V.mab ma
 mB:C.w0.heap.size≤V.mab
 mo:V.mab≠V.onb
 ml:V.mab≠V.lob
section
variable {C:AX} {w w':World} {V:FV} {on lo ma:Nat→Bool}
theorem FlH.drewN (h:FlH C w V on lo ma)(n:Nat):FlH C (w.drewN n) V on lo ma:=⟨h.c,zft h.onw n,h.fB,h.f,h.on.drewN n,h.lo.drewN n,h.ma.drewN n,h.mB,h.mo,h.ml⟩
theorem FlH.drew (h:FlH C w V on lo ma):FlH C w.drew V on lo ma:=⟨h.c,h.onw.drew,h.fB,h.f,h.on.drew,h.lo.drew,h.ma.drew,h.mB,h.mo,h.ml⟩
theorem FlH.same (h:FlH C w V on lo ma)(hb:C.on w')(h1:w'.heap[V.fb]? = w.heap[V.fb]?)(h2:w'.heap[V.onb]? = w.heap[V.onb]?)(h3:w'.heap[V.lob]? = w.heap[V.lob]?)(h4:w'.heap[V.mab]? = w.heap[V.mab]?):FlH C w' V on lo ma :=
 ⟨h.c,hb,h.fB,h1.trans h.f,h.on.of_block h2,h.lo.of_block h3,h.ma.of_block h4,h.mB,h.mo,h.ml⟩
theorem FlH.below {N:Nat}(h:FlH C w V on lo ma)(hb:Below N w w')(hN:w.heap.size≤N):FlH C w' V on lo ma:=by
 have hz:=h.onw.size
 exact h.same (h.onw.trans (hb.mono (Nat.le_trans hz hN))) (hb.block _ (Nat.lt_of_lt_of_le h.f.lt hN)) (hb.block _ (Nat.lt_of_lt_of_le h.on.lt hN)) (hb.block _ (Nat.lt_of_lt_of_le h.lo.lt hN)) (hb.block _ (Nat.lt_of_lt_of_le h.ma.lt hN))
theorem FlH.cells (h:FlH C w V on lo ma):(∀ i,w.cell? ⟨V.fb,i,none⟩=#[.pointer (some ⟨C.pb,0,none⟩),.map (some V.onb),V.sv,V.rv,V.bv,.map (some V.lob),.map (some V.mab)][i]?)∧(∀ i,w.cell? ⟨C.pb,i,none⟩=#[.pointer (some ⟨C.X.tb,0,none⟩),.int .i64 C.P.nv,.int .i64 C.P.nm,.slice (some ⟨C.fg,0,none⟩) C.P.fs.length C.fcap,.slice (some ⟨C.cg,0,none⟩) C.P.code.length C.ccap,C.X.av,C.X.nv,C.X.gv,.int .i64 C.P.main][i]?) :=
 ⟨h.f.cell,h.c.pcells h.onw⟩
end
def zeq (on lo ma:Nat→Bool)(g:Nat):List In→Nat→Nat→Bool
 | [],_,n=>decide (1<n)
 | i::r,k,n=>if on k&&zg9 i&&decide (i.call=g)then(if lo k||ma i.fn then true else zeq on lo ma g r (k+1) (n+1))else zeq on lo ma g r (k+1) n
def zff (P:Pr)(on lo ma:Nat→Bool)(g:Nat):Bool:=zeq on lo ma g P.code 0 (if g=P.main then 1 else 0)
theorem znb (w:World)(a b:Nat):(w.drewN a).drewN b=w.drewN (a+b):=by
 simp[World.drewN,Nat.add_assoc]
def zhv (P:Pr)(on lo ma:Nat→Bool)(g:Nat)(M:Bool)(w:World)(gk:Nat)(nv kv:Value)(W:World):Prop :=
 ∃ k n d:Nat,nv=.int .i64 n∧kv=.int .i64 k∧gk=P.code.length-k∧k≤P.code.length∧n≤k+1∧W=w.drewN d∧M=zeq on lo ma g (P.code.drop k) k n
def QuietB (w:World)(b:Bool)(e:Ending)(w':World):Prop:=e=.returned (.bool b)∧∃ d,w'=w.drewN d
theorem zs7 (C:AX)(w:World)(V:FV)(on lo ma:Nat→Bool)(g:Nat)(h:FlH C w V on lo ma)(hg:g<1000) :
  Calls Tryz.prog 273 #[.pointer (some ⟨V.fb,0,none⟩),.int .i64 (g:Int)] w (QuietB w (zff C.P on lo ma g)):=by
 obtain⟨hf,hp⟩:=h.cells
 have H:=zH h
 have hcl:=h.c.wf.cl
 obtain⟨M,hM⟩:∃ M,M=zff C.P on lo ma g:=⟨_,rfl⟩
 rw[← hM]
 have HM:=zH hM
 obtain⟨n0,hn0⟩:∃ n0:Nat,n0=if g=C.P.main then 1 else 0:=⟨_,rfl⟩
 have hn1:n0≤1:=by rw[hn0];split <;> omega
 have ST:=zH (show zhv C.P on lo ma g M w C.P.code.length (.int .i64 n0) (.int .i64 (0:Int)) w from⟨0,n0,0,rfl,rfl,rfl,Nat.zero_le _,by omega,rfl,by rw[hM,hn0];rfl⟩)
 have HG:∀ {gk:Nat} {nv kv:Value} {W:World},zhv C.P on lo ma g M w gk nv kv W→Hid (zhv C.P on lo ma g M w gk nv kv W):=fun h=>zH h
 clear h hM HG
 have hmain:((g:Int)==(C.P.main:Int))=decide (g=C.P.main):=by rw[Bool.eq_iff_iff];simp;omega
 by_cases hgm:g=C.P.main
 all_goals first | rw[if_pos hgm]at hn0 | rw[if_neg hgm]at hn0
 all_goals first | rw[decide_eq_true hgm]at hmain | rw[decide_eq_false hgm]at hmain
 all_goals
  subst hn0
  have HGM:=zH hgm
  clear hgm hn1
  go_enter Tryz.func273,Tryz.ntmps273
  go_wp2_with fail
  clear hmain
  go_loopg [5,27] C.P.code.length (fun gk v5 v27 wr=>zhv C.P on lo ma g M w gk v5 v27 wr)
  case atStart=>exact ST.out
  case round =>
   obtain⟨k,n,d,rfl,rfl,hgk,hk,hn,hW,hM⟩:=hrel
   have HD:=zH (show FlH C wr V on lo ma by rw[hW];exact H.out.drewN d)
   have HW:=zH hW
   clear hf hp hW
   obtain⟨hf,hp⟩:=HD.out.cells
   have HGK:=zH hgk
   have HM:=zH hM
   clear hgk hM
   by_cases hlt:k<C.P.code.length
   ·obtain⟨i,hi⟩:∃ i,C.P.code[k]? = some i:=⟨_,List.getElem?_eq_getElem hlt⟩
    have HI:=zH hi
    obtain⟨aa,ac,hic,_,_⟩:=H.out.c.icells HD.out.onw hi
    have i9:wr.cell? ⟨C.cg,k*14+9,none⟩=some (.int .i64 i.var):=hic 9 (by omega)
    have i2:wr.cell? ⟨C.cg,k*14+2,none⟩=some (.int .i64 i.fn):=hic 2 (by omega)
    have i11:wr.cell? ⟨C.cg,k*14+11,none⟩=some (.int .i64 i.call):=hic 11 (by omega)
    have HT:=zH (show M=if on k&&zg9 i&&decide (i.call=g)then(if lo k||ma i.fn then true else zeq on lo ma g (C.P.code.drop (k+1)) (k+1) (n+1))else zeq on lo ma g (C.P.code.drop (k+1)) (k+1) n by rw[HM.out,zcc hi,zeq])
    clear hic hi
    have hk6:k<1000000:=by omega
    have hfn:i.fn<1000000:=by have:=H.out.c.wf.fn k i HI.out;have:=H.out.c.wf.fl;omega
    go_wp2_with fail
    refine(hasE _ V.onb k on HD.out.on (by omega)).mono ?_
    rintro e w2 ⟨rfl,rfl⟩
    cases hon:on k
    ·have REL:=zH (show zhv C.P on lo ma g M w (C.P.code.length-(k+1)) (.int .i64 n) (.int .i64 ((k+1:Nat):Int)) wr from⟨k+1,n,d,rfl,rfl,rfl,by omega,by omega,HW.out,by rw[HT.out,if_neg (by simp[hon])]⟩)
     clear hon
     go_wp2_with fail
     go_roundg (C.P.code.length-(k+1))
     case measure=>have:=HGK.out;omega
     case rel=>rw[show((k:Int)+1)=((k+1:Nat):Int) by omega];exact REL.out
    ·go_wp2_with fail
     refine(zpt C H.out.c _ k i HD.out.onw HI.out).mono ?_
     rintro e w2 ⟨rfl,rfl⟩
     cases hen:zg9 i
     ·have REL:=zH (show zhv C.P on lo ma g M w (C.P.code.length-(k+1)) (.int .i64 n) (.int .i64 ((k+1:Nat):Int)) wr from⟨k+1,n,d,rfl,rfl,rfl,by omega,by omega,HW.out,by rw[HT.out,if_neg (by simp[hen])]⟩)
      clear hen
      go_wp2_with fail
      go_roundg (C.P.code.length-(k+1))
      case measure=>have:=HGK.out;omega
      case rel=>rw[show((k:Int)+1)=((k+1:Nat):Int) by omega];exact REL.out
     ·have hcgb:((i.call:Int) != (g:Int))=!decide (i.call=g):=by rw[Bool.eq_iff_iff];simp;omega
      by_cases hcg:i.call=g
      ·rw[decide_eq_true hcg]at hcgb
       have HT2:=zH (show M=if(lo k||ma i.fn)=true then true else zeq on lo ma g (C.P.code.drop (k+1)) (k+1) (n+1) by rw[HT.out,if_pos (by rw[hon,hen,decide_eq_true hcg];rfl)])
       clear hon hen hcg
       simp only[Bool.not_true]at hcgb
       cases hlo:lo k
       ·have HQ1:=zH (show ∀ n,Calls Tryz.prog 154 #[.map (some V.lob),.int .i64 ((k:Nat):Int)] (wr.drewN n) fun e w''=>e=.returned (.bool false)∧∃ m,w''=wr.drewN m from fun n=>by have:=hasE _ V.lob k lo ((HD.out.lo).drewN n) hk6;rw[hlo]at this;exact zch this)
        cases hma:ma i.fn
        ·have HQ2:=zH (show ∀ n,Calls Tryz.prog 154 #[.map (some V.mab),.int .i64 ((i.fn:Nat):Int)] (wr.drewN n) fun e w''=>e=.returned (.bool false)∧∃ m,w''=wr.drewN m from fun n=>by have:=hasE _ V.mab i.fn ma ((HD.out.ma).drewN n) hfn;rw[hma]at this;exact zch this)
         have HT3:=zH (show M=zeq on lo ma g (C.P.code.drop (k+1)) (k+1) (n+1) by rw[HT2.out,if_neg (by rw[hlo,hma];simp)])
         clear hlo hma
         go_wp2_with fail
         go_quiet ((go_at_call 154;first | with_reducible exact HQ1.out _ | with_reducible exact HQ2.out _))
         have REL:=zH (show zhv C.P on lo ma g M w (C.P.code.length-(k+1)) (.int .i64 ((n+1:Nat):Int)) (.int .i64 ((k+1:Nat):Int)) (wr.drewN nq)from⟨k+1,n+1,d+nq,rfl,rfl,rfl,by omega,by omega,by rw[HW.out];exact znb w d nq,HT3.out⟩)
         go_wp2_with fail
         go_roundg (C.P.code.length-(k+1))
         case measure=>have:=HGK.out;omega
         case rel=>rw[show((k:Int)+1)=((k+1:Nat):Int) by omega,show((n:Int)+1)=((n+1:Nat):Int) by omega];exact REL.out
        ·have HQ2:=zH (show ∀ n,Calls Tryz.prog 154 #[.map (some V.mab),.int .i64 ((i.fn:Nat):Int)] (wr.drewN n) fun e w''=>e=.returned (.bool true)∧∃ m,w''=wr.drewN m from fun n=>by have:=hasE _ V.mab i.fn ma ((HD.out.ma).drewN n) hfn;rw[hma]at this;exact zch this)
         have HT3:=zH (show M=true by rw[HT2.out,if_pos (by rw[hma];simp)])
         clear hlo hma
         go_wp2_with fail
         go_quiet ((go_at_call 154;first | with_reducible exact HQ1.out _ | with_reducible exact HQ2.out _))
         go_wp2_with fail
         go_ret
         exact⟨zdr HT3.out.symm,d+nq,by rw[HW.out];exact znb w d nq⟩
       ·have HQ1:=zH (show ∀ n,Calls Tryz.prog 154 #[.map (some V.lob),.int .i64 ((k:Nat):Int)] (wr.drewN n) fun e w''=>e=.returned (.bool true)∧∃ m,w''=wr.drewN m from fun n=>by have:=hasE _ V.lob k lo ((HD.out.lo).drewN n) hk6;rw[hlo]at this;exact zch this)
        have HT3:=zH (show M=true by rw[HT2.out,if_pos (by rw[hlo];rfl)])
        clear hlo
        go_wp2_with fail
        go_quiet ((go_at_call 154;exact HQ1.out _))
        go_wp2_with fail
        go_ret
        exact⟨zdr HT3.out.symm,d+nq,by rw[HW.out];exact znb w d nq⟩
      ·rw[decide_eq_false hcg]at hcgb
       simp only[Bool.not_false]at hcgb
       have REL:=zH (show zhv C.P on lo ma g M w (C.P.code.length-(k+1)) (.int .i64 n) (.int .i64 ((k+1:Nat):Int)) wr from⟨k+1,n,d,rfl,rfl,rfl,by omega,by omega,HW.out,by rw[HT.out,if_neg (by simp[hcg])]⟩)
       clear hcg
       go_wp2_with fail
       go_roundg (C.P.code.length-(k+1))
       case measure=>have:=HGK.out;omega
       case rel=>rw[show((k:Int)+1)=((k+1:Nat):Int) by omega];exact REL.out
   ·have hk2:k=C.P.code.length:=by omega
    have HT3:=zH (show M=decide (1<n) by rw[HM.out,hk2,List.drop_length,zeq])
    have hd:decide ((1:Int)<(n:Int))=decide (1<n):=by rw[Bool.eq_iff_iff];simp;omega
    have HD1:=zH hd
    clear hd
    subst hk2
    go_wp2_with fail
    go_ret
    exact⟨zdr (by rw[HT3.out];first | rfl | exact HD1.out),d,HW.out⟩
end
section
open Go.RowKit Go.Maps
set_option linter.unusedSimpArgs false
theorem zmz {on lo ma mb:Nat→Bool}{g:Nat}(hm:∀ k,ma k=true→mb k=true):∀ (l:List In) (k n m:Nat),n≤m→zeq on lo ma g l k n=true→zeq on lo mb g l k m=true
 | [],_,n,m,hn,h=>by
  simp only[zeq,decide_eq_true_eq]at h ⊢
  omega
 | i::r,k,n,m,hn,h=>by
  unfold zeq at h ⊢
  split at h
  ·rename_i hc
   rw[if_pos hc]
   split at h
   ·rename_i hd
    rw[if_pos (by
     rcases Bool.or_eq_true _ _ ▸ hd with hd | hd
     ·rw[hd];rfl
     ·rw[hm _ hd,Bool.or_true])]
   ·split
    ·rfl
    ·exact zmz hm r (k+1) (n+1) (m+1) (by omega) h
  ·rename_i hc
   rw[if_neg hc]
   exact zmz hm r (k+1) n m hn h
theorem zsr {P:Pr}{on lo ma mb:Nat→Bool}{g:Nat}(hm:∀ k,ma k=true→mb k=true)(h:zff P on lo ma g=true):zff P on lo mb g=true:=zmz hm _ _ _ _ (Nat.le_refl _) h
def zgr (P:Pr)(on lo:Nat→Bool)(g:Nat):Prop:=∀ S:Nat→Bool,(∀ g,g<P.fs.length→zff P on lo S g=true→S g=true)→S g=true
theorem zgr.lt {P:Pr}{on lo:Nat→Bool}{g:Nat}(h:zgr P on lo g):g<P.fs.length:=by
 have:=h (fun g=>decide (g<P.fs.length)) (fun g hg _=>by simpa using hg)
 simpa using this
def zf4 (S:Nat→Bool)(n:Nat):Nat:=(List.range n).countP fun k=>!S k
theorem zq0 {S:Nat→Bool}{g:Nat}:∀ {n:Nat},g<n→S g=false→zf4 (fun k=>decide (k=g)||S k) n<zf4 S n
 | 0,h,_=>by omega
 | n+1,h,hs=>by
  unfold zf4
  rw[List.range_succ,List.countP_append,List.countP_append]
  by_cases hg:g=n
  ·subst hg
   have h1:(List.range g).countP (fun k=>!(decide (k=g)||S k))=(List.range g).countP (fun k=>!S k):=by
    apply List.countP_congr
    intro k hk
    have:k≠g:=by have:=List.mem_range.1 hk;omega
    simp[this]
   rw[h1]
   simp[hs]
  ·have:=zq0 (S:=S) (g:=g) (n:=n) (by omega) hs
   unfold zf4 at this
   have h2:([n].countP fun k=>!(decide (k=g)||S k))=[n].countP fun k=>!S k:=by
    have:n≠g:=by omega
    simp[this]
   rw[h2]
   omega
structure zfe (C:AX)(w0:World)(V:FV)(on lo:Nat→Bool)(ma:Nat→Bool)(W:World):Prop where
 h:FlH C W V on lo ma
 s:∀ g,ma g=true→zgr C.P on lo g
 k:w0.grownBy W (some V.mab)
section
variable {C:AX} {w0 w:World} {V:FV} {on lo ma:Nat→Bool}
theorem zvl (w w':World)(row:Option Nat)(n:Nat)(h:w.grownBy w' row):w.grownBy (w'.drewN n) row:=⟨h.os,h.tape,h.output,h.size,h.block⟩
theorem zfe.drewN (h:zfe C w0 V on lo ma w)(n:Nat):zfe C w0 V on lo ma (w.drewN n):=⟨h.h.drewN n,h.s,zvl _ _ _ n h.k⟩
theorem zfe.mark {g:Nat}{w':World}(h:zfe C w0 V on lo ma w)(hg:g<C.P.fs.length)(ht:zff C.P on lo ma g=true)(hm:MkE w' V.mab (fun k=>decide (k=g)||ma k))(hk:w.grownBy w' (some V.mab)) :
  zfe C w0 V on lo (fun k=>decide (k=g)||ma k) w':=by
 have hb:C.on w':=h.h.onw.grown hk h.h.onw.size (fun k e=>by cases e;exact h.h.mB)
 have hne:V.fb≠V.mab:=fun e=>(h.h.ma.cellFar h.h.f) e.symm
 refine⟨⟨h.h.c,hb,h.h.fB,(hk.block _ h.h.f.lt (fun e=>by injection e with e;exact hne e)).trans h.h.f,h.h.on.of_block (hk.block _ h.h.on.lt (fun e=>by injection e with e;exact h.h.mo e.symm)),h.h.lo.of_block (hk.block _ h.h.lo.lt (fun e=>by injection e with e;exact h.h.ml e.symm)),hm,h.h.mB,h.h.mo,h.h.ml⟩,?_,h.k.trans hk⟩
 intro k hk2
 rcases Bool.or_eq_true _ _ ▸ hk2 with hk2 | hk2
 ·have:k=g:=by simpa using hk2
  subst this
  intro S hS
  exact hS k hg (zsr (fun j hj=>h.s j hj S hS) ht)
 ·exact h.s k hk2
theorem MkE.put {b k:Nat}{S:Nat→Bool}(h:MkE w b S)(hk:k<1000000):∃ w',(Instr.mapUpdate 310 (.map (some b)) (.int .i64 (k:Int)) (.int .i64 1)).run Tryz.prog w=.ok () w'∧MkE w' b (fun j=>decide (j=k)||S j)∧w.grownBy w' (some b):=by
 obtain⟨m,h⟩:=h
 obtain⟨w3,hrun,hm3,hg3,hz3⟩:=h.is.update (t:=310) (e:=3) ikey Tryz.underlying310 (x:=k) hk 1
 refine⟨w3,hrun,⟨_,hm3,?_,?_⟩,hg3⟩
 ·intro p hp
  rcases zg6 hp with rfl | hp
  ·rfl
  ·exact h.one p hp
 ·intro j
  rw[zh1]
  by_cases e:k=j
  ·subst e
   simp
  ·rw[if_neg e]
   simp[show j≠k from fun h=>e h.symm,h.has]
end
def zjo (C:AX)(w0:World)(V:FV)(on lo ma0:Nat→Bool)(gk:Nat)(cv kv:Value)(W:World):Prop :=
 ∃ (j:Nat) (c:Bool) (ma:Nat→Bool),cv=.bool c∧kv=.int .i64 j∧gk=C.P.fs.length-j∧j≤C.P.fs.length∧zfe C w0 V on lo ma W∧(c=true→zf4 ma C.P.fs.length<zf4 ma0 C.P.fs.length) ∧
  (c=false→ma=ma0∧∀ g,g<j→ma0 g=false→zff C.P on lo ma0 g=false)
def zjq (P:Pr)(on lo:Nat→Bool)(ma:Nat→Bool):Prop:=∀ g,g<P.fs.length→ma g=false→zff P on lo ma g=false
theorem zus (C:AX)(w0 w:World)(V:FV)(on lo ma:Nat→Bool)(h:zfe C w0 V on lo ma w) :
  Calls Tryz.prog 222 #[.pointer (some ⟨V.fb,0,none⟩)] w (zhm (zfe C w0 V on lo) (fun ma=>zf4 ma C.P.fs.length) (zjq C.P on lo) ma):=by
 obtain⟨hf,hp⟩:=h.h.cells
 have hfl:=h.h.c.wf.fl
 have ST:=zH (show zjo C w0 V on lo ma C.P.fs.length (.bool false) (.int .i64 (0:Int)) w from⟨0,false,ma,rfl,rfl,rfl,Nat.zero_le _,h,fun h=>(by cases h),fun _=>⟨rfl,fun g hg=>by omega⟩⟩)
 clear h
 go_enter Tryz.func222,Tryz.ntmps222
 go_wp2_with fail
 clear hf hp
 go_loopg [3,13] C.P.fs.length (fun gk v3 v13 wr=>zjo C w0 V on lo ma gk v3 v13 wr)
 case atStart=>exact ST.out
 case round =>
  obtain⟨j,c,mb,rfl,rfl,hg,hj,hI,hc1,hc2⟩:=hrel
  have HI:=zH hI
  have HG:=zH hg
  have HC1:=zH hc1
  have HC2:=zH hc2
  clear hg hI hc1 hc2
  obtain⟨hf,hp⟩:=HI.out.h.cells
  by_cases hlt:j<C.P.fs.length
  ·have hj6:j<1000000:=by omega
   go_wp2_with fail
   refine(hasE wr V.mab j mb HI.out.h.ma hj6).mono ?_
   rintro e w2 ⟨rfl,rfl⟩
   cases hmj:mb j
   ·go_wp2_with fail
    refine(zs7 C wr V on lo mb j HI.out.h (by omega)).mono ?_
    rintro e w2 ⟨rfl,d,rfl⟩
    have HD:=zH (HI.out.drewN d)
    obtain⟨hf,hp⟩:=HD.out.h.cells
    cases htw:zff C.P on lo mb j
    ·have REL:=zH (show zjo C w0 V on lo ma (C.P.fs.length-(j+1)) (.bool c) (.int .i64 ((j+1:Nat):Int)) (wr.drewN d)from
      ⟨j+1,c,mb,rfl,rfl,rfl,hlt,HD.out,HC1.out,fun hc=>⟨(HC2.out hc).1,fun g hg h0=>by
       rcases Nat.lt_or_ge g j with hgj | hgj
       ·exact(HC2.out hc).2 g hgj h0
       ·obtain rfl:g=j:=by omega
        rw[← (HC2.out hc).1];exact htw⟩⟩)
     clear hmj htw
     go_wp2_with fail
     go_roundg (C.P.fs.length-(j+1))
     case measure=>have:=HG.out;omega
     case rel=>rw[show((j:Int)+1)=((j+1:Nat):Int) by omega];exact REL.out
    ·obtain⟨w3,hrun,hm3,hg3⟩:=HD.out.h.ma.put hj6
     have HI3:=zH (HD.out.mark hlt htw hm3 hg3)
     have hlt3:=zq0 (S:=mb) hlt hmj
     have REL:=zH (show zjo C w0 V on lo ma (C.P.fs.length-(j+1)) (.bool true) (.int .i64 ((j+1:Nat):Int)) w3 from
      ⟨j+1,true,_,rfl,rfl,rfl,hlt,HI3.out,fun _=>by
       cases c
       ·rw[← (HC2.out rfl).1];exact hlt3
       ·exact Nat.lt_trans hlt3 (HC1.out rfl),fun h=>by cases h⟩)
     clear hmj htw hm3 hg3 hlt3
     go_wp2_with fail
     go_roundg (C.P.fs.length-(j+1))
     case measure=>have:=HG.out;omega
     case rel=>rw[show((j:Int)+1)=((j+1:Nat):Int) by omega];exact REL.out
   ·have REL:=zH (show zjo C w0 V on lo ma (C.P.fs.length-(j+1)) (.bool c) (.int .i64 ((j+1:Nat):Int)) wr from
     ⟨j+1,c,mb,rfl,rfl,rfl,hlt,HI.out,HC1.out,fun hc=>⟨(HC2.out hc).1,fun g hg h0=>by
      rcases Nat.lt_or_ge g j with hgj | hgj
      ·exact(HC2.out hc).2 g hgj h0
      ·obtain rfl:g=j:=by omega
       rw[← (HC2.out hc).1,hmj]at h0;cases h0⟩⟩)
    clear hmj
    go_wp2_with fail
    go_roundg (C.P.fs.length-(j+1))
    case measure=>have:=HG.out;omega
    case rel=>rw[show((j:Int)+1)=((j+1:Nat):Int) by omega];exact REL.out
  ·have hj2:j=C.P.fs.length:=by omega
   have FIN:=zH (show zhm (zfe C w0 V on lo) (fun ma=>zf4 ma C.P.fs.length) (zjq C.P on lo) ma (.returned (.bool c)) wr from
    ⟨mb,c,rfl,HI.out,HC1.out,fun hc=>⟨(HC2.out hc).1,fun g hg h0=>(HC2.out hc).2 g (by omega) h0⟩⟩)
   subst hj2
   go_wp2_with fail
   go_ret
   exact FIN.out
end
section
open Go.RowKit Go.Maps
set_option linter.unusedSimpArgs false
def zgp (P:Pr)(on:Nat→Bool)(k:Nat):List Nat:=match P.code[k]? with | some i=>if on k&&decide (i.op=11)then [i.call]else [] | none=>[]
def zem (P:Pr)(on:Nat→Bool):Nat→Nat→List Nat
 | _,0=>[]
 | k,n+1=>zgp P on k++zem P on (k+1) n
def zcy (P:Pr)(on:Nat→Bool)(g:Nat):List Nat:=match P.fs[g]? with | some f=>zem P on f.from_ (f.to-f.from_) | none=>[]
structure zkq (C:AX)(w:World)(V:FV)(on lo ma:Nat→Bool)(f:Fu)(M:List Nat)(gk:Nat)(lv kv:Value)(W:World):Prop where
 ex:∃ (k:Nat) (l:List Nat),kv=.int .i64 k∧gk=f.to-k∧W.ownsRow w.heap.size 3 1 lv l.length (ints l)∧(l.length=0→lv=.slice none 0 0)∧l.length≤k∧k≤900∧M=l++zem C.P on k (f.to-k)
 h:FlH C W V on lo ma
 b:Below w.heap.size w W
theorem ztb (C:AX)(w:World)(V:FV)(on lo ma:Nat→Bool)(g:Nat)(f:Fu)(h:FlH C w V on lo ma)(hg:C.P.fs[g]? = some f) :
  Calls Tryz.prog 274 #[.pointer (some ⟨V.fb,0,none⟩),.int .i64 (g:Int)] w (zdw w (zcy C.P on g)):=by
 obtain⟨hf,hp⟩:=h.cells
 have hfl:=h.c.wf.fl
 have hcl:=h.c.wf.cl
 have hg1:g<C.P.fs.length:=(List.getElem?_eq_some_iff.1 hg).1
 have hf3:w.cell? ⟨C.fg,g*5+3,none⟩=some (.int .i64 f.from_):=h.c.fcell h.onw hg 3 (by omega)
 have HF:=zH (h.c.wf.from_ g f hg)
 have hfrom:f.from_≤900:=by have:=HF.out;omega
 have HG:=zH hg
 obtain⟨M,hM⟩:∃ M,M=zcy C.P on g:=⟨_,rfl⟩
 rw[← hM]
 have ST:=zH (show zkq C w V on lo ma f M (f.to-f.from_) (.slice none 0 0) (.int .i64 f.from_) w from
  ⟨⟨f.from_,[],rfl,rfl,World.ownsRow_nil _ _ _ _,fun _=>rfl,Nat.zero_le _,hfrom,by rw[hM];unfold zcy;rw[hg];rfl⟩,h,Below.refl _ _⟩)
 have H:=zH h
 clear h hg hM
 go_enter Tryz.func274,Tryz.ntmps274
 go_wp2_with fail
 clear hf hp hf3
 go_loopg [5,6] (f.to-f.from_) (fun gk v5 v6 wr=>zkq C w V on lo ma f M gk v5 v6 wr)
 case atStart=>exact ST.out
 case round =>
  obtain⟨⟨k,l,rfl,hgk,hr,h0,hlk,hk9,hM⟩,hFl,hb⟩:=hrel
  obtain⟨va,vc,rfl⟩:=zbx hr
  have HH:=zH hFl
  have HR:=zH hr
  have H0:=zH h0
  have HM:=zH hM
  have HB:=zH hb
  have HK:=zH hgk
  obtain⟨hf,hp⟩:=hFl.cells
  have hf4:wr.cell? ⟨C.fg,g*5+4,none⟩=some (.int .i64 f.to):=hFl.c.fcell hFl.onw HG.out 4 (by omega)
  clear hFl hr h0 hM hb hgk
  have hto:=HF.out.2
  by_cases hlt:k<f.to
  ·have hkc:k<C.P.code.length:=by omega
   obtain⟨i,hi⟩:∃ i,C.P.code[k]? = some i:=⟨_,List.getElem?_eq_getElem hkc⟩
   obtain⟨aa,ac,hic,_,_⟩:=HH.out.c.icells HH.out.onw hi
   have i0:wr.cell? ⟨C.cg,k*14,none⟩=some (.int .i64 i.op):=hic 0 (by omega)
   have i11:wr.cell? ⟨C.cg,k*14+11,none⟩=some (.int .i64 i.call):=hic 11 (by omega)
   have HI:=zH hi
   have HS:=zH (show M=(l++zgp C.P on k)++zem C.P on (k+1) (f.to-(k+1)) by
    rw[HM.out,show f.to-k=(f.to-(k+1))+1 by omega,zem,List.append_assoc])
   clear hic hi
   have hd:decide ((k:Int)<(f.to:Int))=true:=by rw[decide_eq_true_iff];omega
   go_wp2_with fail
   refine(hasE wr V.onb k on HH.out.on (by omega)).mono ?_
   rintro e w2 ⟨rfl,rfl⟩
   cases hon:on k
   ·have REL:=zH (show zkq C w V on lo ma f M (f.to-(k+1)) (.slice va l.length vc) (.int .i64 ((k+1:Nat):Int)) wr from
     ⟨⟨k+1,l,rfl,rfl,HR.out,H0.out,by omega,by omega,by rw[HS.out];unfold zgp;rw[HI.out];simp[hon]⟩,HH.out,HB.out⟩)
    clear hon
    go_wp2_with fail
    go_roundg (f.to-(k+1))
    case measure=>have:=HK.out;omega
    case rel=>rw[show((k:Int)+1)=((k+1:Nat):Int) by omega];exact REL.out
   ·by_cases h11:i.op=11
    ·have o1:((i.op:Int)==11)=true:=by rw[h11];rfl
     have HS2:=zH (show M=(l++[i.call])++zem C.P on (k+1) (f.to-(k+1)) by rw[HS.out];unfold zgp;rw[HI.out];simp[hon,h11])
     clear hon h11
     go_wp2_with (refine zhc zji rfl _ _ rfl w.heap.size _ l.length (ints l) wr.heap.size _ _ (HR.out.alloc _) (Blk.newAt rfl) rfl rfl rfl (by simp[Value.oneCell']) (by omega) (by have:=HB.out.size;simp;omega) ?_;intro g5 c5 w5 hrow5 hg5 hat5)
     have hb5:Below w.heap.size w w5:=(HB.out.alloc HB.out.size _).grown hg5 (by have:=HB.out.size;simp;omega) (fun k e=>(HR.out.lt k e).1)
     have REL:=zH (show zkq C w V on lo ma f M (f.to-(k+1)) (.slice (some ⟨g5,0,none⟩) (l.length+1) c5) (.int .i64 ((k+1:Nat):Int)) w5 from
      ⟨⟨k+1,l++[i.call],rfl,rfl,by simpa [ints] using hrow5,fun h=>by simp at h,by simp;omega,by omega,HS2.out⟩,H.out.below hb5 (Nat.le_refl _),hb5⟩)
     clear hb5 hrow5 hg5 hat5
     go_wp2_with fail
     go_roundg (f.to-(k+1))
     case measure=>have:=HK.out;omega
     case rel=>rw[show((k:Int)+1)=((k+1:Nat):Int) by omega];exact REL.out
    ·have o1:((i.op:Int)==11)=false:=zai (by omega)
     have REL:=zH (show zkq C w V on lo ma f M (f.to-(k+1)) (.slice va l.length vc) (.int .i64 ((k+1:Nat):Int)) wr from
      ⟨⟨k+1,l,rfl,rfl,HR.out,H0.out,by omega,by omega,by rw[HS.out];unfold zgp;rw[HI.out];simp[h11]⟩,HH.out,HB.out⟩)
     clear hon h11
     go_wp2_with fail
     go_roundg (f.to-(k+1))
     case measure=>have:=HK.out;omega
     case rel=>rw[show((k:Int)+1)=((k+1:Nat):Int) by omega];exact REL.out
  ·have hd:decide ((k:Int)<(f.to:Int))=false:=by rw[decide_eq_false_iff_not];omega
   have FIN:=zH (show zdw w M (.returned (.slice va l.length vc)) wr from
    ⟨_,rfl,by rw[HM.out,show f.to-k=0 by omega,zem,List.append_nil];exact HR.out,fun h=>H0.out (by rw[HM.out,show f.to-k=0 by omega,zem,List.append_nil]at h;exact h),HB.out⟩)
   go_wp2_with fail
   go_ret
   exact FIN.out
end
section
def zfq (Q:Act→World→Prop):Exit→Act→World→Prop
 | .normal,a,w=>Q a w
 | _,_,_=>False
theorem zfq.shut {Q:Act→World→Prop}:¬ LetsOut (zfq Q):=fun⟨_,_,h⟩=>h
theorem zn7 {P:Program}{c:Code}{Q:Exit→Act→World→Prop}{a:Act}{w:World}(h:c.wp P (zfq (fun a w=>Q .normal a w)) a w):c.wp P Q a w :=
 wp_mono h fun e a w h=>by cases e <;> first | exact h | exact h.elim
theorem zgo {Q:Act→World→Prop}{a:Act}{w:World}(h:Q a w):zfq Q .normal a w:=h
end
section
open Go.RowKit
def zkn (ops:Array Oper):Bool:=ops.all fun o=>match o.op with | .defer _=>false | _=>true
theorem zpd {ops:Array Oper}(h:zkn ops=true){i:Nat}{o:Oper}(hi:ops[i]? = some o):∀ c,o.op≠.defer c:=fun c e=>by
 have:=Array.all_eq_true'.1 h o (Array.mem_of_getElem? hi)
 rw[e]at this
 cases this
section
variable {P:Program} {Q:Exit→Act→World→Prop} {md:Region.Mode} {l n:Nat}
theorem zqa {o:Oper}{a:Act}{w:World}{K:Act→World→Prop}(ho:∀ c,o.op≠.defer c)(h:o.wp P a w K Q):o.wpIn (Fence.wide.inRound l) n P a w K Q:=by
 unfold Oper.wpIn
 refine⟨fun _ _=>trivial,?_⟩
 rw[Oper.semAt_eq _ _ _ ho]
 unfold Oper.wp at h
 generalize (execOp a.eval o).run P w=r at *
 have hd:(Fence.wide.inRound l).depth.isSome=true→1≤n:=fun h=>by simp[Fence.wide,Fence.inRound]at h
 cases r with
 | ok x w' =>
  cases x with
  | value v=>exact h
  | skip=>exact h
  | defer d=>exact h
  | enter f args=>exact⟨hd,CallsIn.inRound l (callsIn_wide.2 h)⟩
  | row r args=>exact⟨hd,fun c cs _=>by obtain⟨v,w2,h1,h2⟩:=h c cs;exact⟨v,w2,h1,stepsIn_wide.2 h2⟩⟩
  | _=>exact h.elim
 | halt x w'=>cases x <;> first | exact h | exact h.elim
theorem zv3 {ops:Array Oper}{i:Nat}{a:Act}{w:World}{K K':Act→World→Prop}(ho:zkn ops=true)(hq:¬ LetsOut Q)(hK:∀ a w,K a w→K' a w)(h:wpOp P ops Q i K a w):wpOpIn (Fence.wide.inRound l) n P ops Q i K' a w:=by
 unfold wpOp at h
 unfold wpOpIn
 cases hi:ops[i]? with
 | none=>rw[hi]at h;exact hK _ _ h
 | some o =>
  rw[hi]at h
  simp only at h ⊢
  split at h
  ·rename_i hw
   rw[if_pos hw]
   rcases h with h | ⟨_,h⟩
   ·exact Oper.wpIn_mono hK (zqa (zpd ho hi) h)
   ·exact absurd h hq
  ·rename_i hw
   rw[if_neg hw]
   exact⟨fun _ _=>trivial,hK _ _ h⟩
theorem zo9 {ops:Array Oper}(ho:zkn ops=true)(hq:¬ LetsOut Q):∀ (f:Nat) (L:Array Bool) (a:Act) (w:World),wpAny P md ops Q f L a w→wpAnyIn (Fence.wide.inRound l) n P md ops Q f L a w
 | 0,_,_,_,h=>h
 | f+1,_,_,_,h=>⟨h.1,fun i hi=>zv3 ho hq (fun a w hk=>zo9 ho hq f _ a w hk) (h.2 i hi)⟩
theorem zlm {ops:List Oper}{last:Oper}{id:Nat}{a:Act}{w:World}(m:Nat)(S:World→Prop)(hm:P.follows .mixedOrders=true)(hn:ops.length=m+1)(hlast:ops[m]? = some last)(hB:zjj .any (ops.take m) last=true)(ho:zkn ops.toArray=true)
  (h:wpAnyH P .any (ops.take m).toArray (zdu P ops.toArray m (zfq fun a w=>Q .normal a w)) S m (Array.replicate m false) a w.drew):(Code.region id ops.toArray true).wpIn (Fence.wide.inRound l) n P Q a w:=by
 have hl:ops=ops.take m++[last]:=by
  have h1:=List.take_append_drop m ops
  rw[List.drop_eq_getElem_cons (by omega)]at h1
  have h2:ops[m]=last:=by
   have:=List.getElem?_eq_getElem (l:=ops) (i:=m) (by omega)
   rw[this]at hlast
   injection hlast
  rw[h2,List.drop_eq_nil_of_le (by omega)]at h1
  exact h1.symm
 have hlen:(ops.take m).length=m:=by rw[List.length_take];omega
 refine wpIn_mono (Q:=zfq fun a w=>Q .normal a w) ?_ (fun e a w h=>by cases e <;> first | exact h | exact h.elim)
 refine wpIn_region_any hm (zo9 ho zfq.shut _ _ _ _ ?_)
 have key:=zr9 (Q:=zfq fun a w=>Q .normal a w) (l:=ops.take m) (last:=last) hB m (Array.replicate m false) (Array.replicate (m+1) false) a w.drew
  ⟨by rw[hlen];simp,by rw[hlen];simp,fun i hi=>by rw[hlen]at hi;simp[hi,Nat.lt_succ_of_lt hi],by rw[hlen];simp⟩
  ⟨by simp[hn],fun j oj _ hl=>(by rw[getD_replicate_false]at hl;cases hl),fun t _ ht=>getD_in (by have h1:t<((ops.take m)++[last]).toArray.size:=ht;rw[← hl]at h1;simpa [hn] using h1) (getD_replicate_false _ _)⟩ (by rw[← hl,hlen];exact h)
 rw[← hl]at key
 rw[show ops.toArray.size=m+1 by simpa using hn]
 exact key
theorem zrb {ops:Array Oper}(hq:¬ LetsOut Q):∀ (xs:List Oper) (a:Act) (w:World),(∀ o ∈ xs,∀ c,o.op≠.defer c)→wpList P ops Q xs a w→wpListIn (Fence.wide.inRound l) n P ops Q xs a w
 | [],_,_,_,h=>h
 | o::rest,a,w,ho,h=>by
  unfold wpList at h
  unfold wpListIn
  have ih:=fun a w h=>zrb (ops:=ops) hq rest a w (fun p hp=>ho p (List.mem_cons_of_mem _ hp)) h
  split at h
  ·rename_i hw
   rw[if_pos hw]
   rcases h with h | ⟨_,h⟩
   ·exact Oper.wpIn_mono ih (zqa (ho o (by simp)) h)
   ·exact absurd h hq
  ·rename_i hw
   rw[if_neg hw]
   exact⟨fun _ _=>trivial,ih _ _ h⟩
theorem zuw {ops:List Oper}{id:Nat}{a:Act}{w:World}(ho:zkn ops.toArray=true)(h:wpList P ops.toArray (zfq fun a w=>Q .normal a w) ops a w):(Code.region id ops.toArray false).wpIn (Fence.wide.inRound l) n P Q a w:=by
 refine wpIn_mono (Q:=zfq fun a w=>Q .normal a w) ?_ (fun e a w h=>by cases e <;> first | exact h | exact h.elim)
 refine wpIn_region_lit (zrb zfq.shut _ _ _ (fun o h c=>?_) h)
 obtain⟨i,hi⟩:=List.mem_iff_getElem?.1 h
 exact zpd ho (by simpa using hi) c
theorem zjv {f:FuncId}{fn:Func}{c:Code}{args:Array Value}{w:World}{R:Ending→World→Prop}(hf:P.funcs[f]? = some fn)(hb:fn.body=some c)
  (h:c.wp P (bodyPostM Fence.wide 3 P fn R) { tmps:=args++Array.replicate (fn.ntmps-args.size) undef,defers:=[] } w):Calls P f args w R :=
 (callsIn_wide (n:=3)).1 (callsIn_of_wp_marks hf hb trivial (wpIn_wide.2 h))
end
end
section
open Go.RowKit
section
variable {P:Program} {Q Q':Exit→Act→World→Prop} {md:Region.Mode} {S:World→Prop} {ls nn:Nat}
def zlb (md:Region.Mode)(l:List Oper)(last:Oper):Bool :=
 Region.sinkB md (l++[last]).toArray l.length&&Region.chainB md (l++[last]).toArray l.length&&last.after.all (fun e=>!Region.binds md e||decide (e.on<l.length)) &&
 (List.range l.length).all (fun j=>match l[j]? with | some o=>o.guard.all (fun g=>decide (g.1<l.length))&&o.after.all (fun e=>!Region.binds md e||decide (e.on<j)) | none=>true)
theorem zvg {l:List Oper}{last:Oper}{tmps:Array Value}{i:Nat}(h:i<l.length):yielded (l++[last]).toArray tmps i=yielded l.toArray tmps i:=by
 unfold yielded
 rw[zjm h]
theorem ztn {l:List Oper}{last:Oper}{tmps:Array Value}{o:Oper}(h:o.guard.all (fun g=>decide (g.1<l.length))=true):Region.wanted o (yielded (l++[last]).toArray tmps)=Region.wanted o (yielded l.toArray tmps):=by
 unfold Region.wanted
 cases hg:o.guard with
 | none=>rfl
 | some g =>
  rw[hg]at h
  simp only[Option.all_some,decide_eq_true_eq]at h
  simp only[zvg h]
theorem zxe {l:List Oper}{last:Oper}(hB:zlb md l last=true):∀ (f:Nat) (L L':Array Bool) (a:Act) (w:World),Both l.length L L'→HeadInv md (l++[last]).toArray l.length L' →
  wpAnyH P md l.toArray (zdu P (l++[last]).toArray l.length Q) S f L a w→wpAny P md (l++[last]).toArray Q (f+1) L' a w:=by
 unfold zlb at hB
 simp only[Bool.and_eq_true]at hB
 obtain⟨⟨⟨hw,hc⟩,hlast⟩,hl⟩:=hB
 have hn:l.length<(l++[last]).toArray.size:=by simp
 have h0:∀ e ∈ last.after,Region.binds md e=true→e.on<l.length:=fun e he hb=>by
  have:=Array.all_eq_true'.1 hlast e he
  simpa [hb] using this
 have h2:∀ j o,l[j]? = some o→o.guard.all (fun g=>decide (g.1<l.length))=true∧∀ e ∈ o.after,Region.binds md e=true→e.on<j:=fun j o ho=>by
  have hj:j<l.length:=(List.getElem?_eq_some_iff.1 ho).1
  have:=List.all_eq_true.1 hl j (List.mem_range.2 hj)
  rw[ho]at this
  simp only[Bool.and_eq_true]at this
  refine⟨this.1,fun e he hb=>?_⟩
  have h3:=Array.all_eq_true'.1 this.2 e he
  simpa [hb] using h3
 have hri:∀ {L L':Array Bool} {i:Nat},Both l.length L L'→i<l.length→(i ∈ Region.ready md l.toArray L↔i ∈ Region.ready md (l++[last]).toArray L'):=fun {L L' i} hb hi=>by
  rw[mem_ready,mem_ready,zjm hi,zen (by rw[hb.s];exact hi),zen (by rw[hb.s'];omega),hb.eq i hi]
  refine and_congr_right fun _=>exists_congr fun o=>and_congr_right fun ho=>forall_congr' fun e=>forall_congr' fun he=>forall_congr' fun hbn=>?_
  have:=(h2 i o (by simpa using ho)).2 e he hbn
  rw[hb.eq e.on (by omega)]
 have hnil:∀ {L:Array Bool},L.size=l.length→Region.ready md l.toArray L=[]→∀ i,i<l.length→L.getD i false=true:=fun {L} hs hr i=>by
  induction i using Nat.strongRecOn with
  | _ i ih =>
   intro hi
   cases hc:L.getD i false with
   | true=>rfl
   | false =>
    exfalso
    have:i ∈ Region.ready md l.toArray L:=mem_ready.2 ⟨by rw[zen (by omega)];exact hc,l[i],by simp[hi],fun e he hb=>by
     have:=(h2 i l[i] (List.getElem?_eq_getElem hi)).2 e he hb
     exact ih _ this (by omega)⟩
    rw[hr]at this
    cases this
 have hlr:∀ {L L':Array Bool},Both l.length L L'→(∀ i,i<l.length→L.getD i false=true)→l.length ∈ Region.ready md (l++[last]).toArray L':=fun {L L'} hb ha =>
  mem_ready.2 ⟨by rw[zen (by rw[hb.s'];omega)];exact hb.last,last,zqf,fun e he hbn=>by rw[hb.eq _ (h0 e he hbn)];exact ha _ (h0 e he hbn)⟩
 have hbig:∀ {L':Array Bool} {i:Nat},i ∈ Region.ready md (l++[last]).toArray L'→i≤l.length:=fun {L' i} hi=>by
  obtain⟨_,o,ho,_⟩:=mem_ready.1 hi
  have:=(Array.getElem?_eq_some_iff.1 ho).1
  simp at this
  omega
 have hend:∀ {L L':Array Bool} {a:Act} {w:World} (g:Nat),Both l.length L L'→Region.ready md l.toArray L=[]→zdu P (l++[last]).toArray l.length Q .normal a w→wpAny P md (l++[last]).toArray Q (g+1) L' a w:=fun {L L' a w} g hb hr hq=>by
  have ha:=hnil hb.s hr
  have hn:=hlr hb ha
  refine⟨fun h=>(by rw[h]at hn;cases hn),fun i hi=>?_⟩
  have hin:i=l.length:=by
   rcases Nat.lt_or_ge i l.length with h | h
   ·have:=(hri hb h).2 hi
    rw[hr]at this
    cases this
   ·have:=hbig hi;omega
  subst hin
  have hdone:Region.ready md (l++[last]).toArray (L'.setIfInBounds l.length true)=[]:=by
   refine List.eq_nil_iff_forall_not_mem.2 fun j hj=>?_
   have hj1:=hbig hj
   obtain⟨hj2,_⟩:=mem_ready.1 hj
   by_cases hjn:l.length=j
   ·subst hjn
    simp[hb.s']at hj2
   ·rw[getD_set_ne true hjn,zen (by rw[hb.s'];omega),hb.eq j (by omega),ha j (by omega)]at hj2
    cases hj2
  refine wpOp_mono (fun a' w' q=>?_) hq
  cases g with
  | zero=>exact⟨hdone,q⟩
  | succ g=>exact⟨fun _=>q,by rw[hdone];intro i hi;cases hi⟩
 intro f
 induction f with
 | zero =>
  intro L L' a w hb _ h
  exact hend 0 hb h.1 h.2
 | succ f ih =>
  intro L L' a w hb inv h
  by_cases hr:Region.ready md l.toArray L=[]
  ·exact hend (f+1) hb hr (h.1 hr)
  ·obtain⟨i0,hi0⟩:=List.exists_mem_of_ne_nil _ hr
   have hi0n:i0<l.length:=by
    obtain⟨_,o,ho,_⟩:=mem_ready.1 hi0
    simpa using (Array.getElem?_eq_some_iff.1 ho).1
   refine⟨fun hn=>?_,fun i hi=>?_⟩
   ·have:=(hri hb hi0n).1 hi0
    rw[hn]at this
    cases this
   ·have hin:i<l.length:=by
     rcases Nat.lt_or_ge i l.length with h' | h'
     ·exact h'
     ·exfalso
      obtain⟨h4,_⟩:=mem_ready.1 hi0
      rw[zen (by rw[hb.s];exact hi0n)]at h4
      exact tail_waits hw hc hn inv _ i0 rfl hi0n (by rw[zen (by rw[hb.s'];omega),hb.eq i0 hi0n,h4]) i h' hi
    have hstep:=h.2 i ((hri hb hin).2 hi)
    unfold wpOp at hstep ⊢
    rw[zjm hin]
    obtain⟨o,ho⟩:∃ o,l[i]? = some o:=⟨_,List.getElem?_eq_getElem hin⟩
    have ho':l.toArray[i]? = some o:=by simpa using ho
    rw[ho']at hstep ⊢
    simp only at hstep ⊢
    have hg:=(h2 i o ho).1
    rw[ztn hg]
    split at hstep
    case isFalse hw1 =>
     rw[if_neg hw1]
     exact ih _ _ _ w (hb.set hin) (inv.set hi hin) hstep.2
    rename_i hw1
    rw[if_pos hw1]
    rcases hstep with hstep | ⟨h5,h6⟩
    ·exact .inl (Oper.wp_mono (fun a' w' q=>ih _ _ a' w' (hb.set hin) (inv.set hi hin) q.2) (zsh zdu.exits hstep))
    ·obtain⟨a1,w1,q⟩:=h6
     exact .inr ⟨h5,a1,w1,q⟩
theorem zxh {l:List Oper}{last:Oper}{id:Nat}{a:Act}{w:World}(S:World→Prop)(hm:P.follows .mixedOrders=true)(hB:zlb .any l last=true)
  (h:wpAnyH P .any l.toArray (zdu P (l++[last]).toArray l.length Q) S l.length (Array.replicate l.length false) a w.drew):(Code.region id (l++[last]).toArray true).wp P Q a w:=by
 refine wp_region_any hm ?_
 have hs:(l++[last]).toArray.size=l.length+1:=by simp
 rw[hs]
 exact zxe hB _ _ _ a w.drew ⟨by simp,by simp,fun i hi=>by simp[hi,Nat.lt_succ_of_lt hi],by simp⟩
  ⟨by simp,fun j oj _ hl=>(by rw[getD_replicate_false]at hl;cases hl),fun t _ ht=>getD_in (by simpa using ht) (getD_replicate_false _ _)⟩ h
theorem zah {l:List Oper}{last:Oper}{id:Nat}{a:Act}{w:World}(n:Nat)(S:World→Prop)(hm:P.follows .mixedOrders=true)(hn:l.length=n+1)(hlast:l[n]? = some last)(hB:zlb .any (l.take n) last=true)
  (h:wpAnyH P .any (l.take n).toArray (zdu P l.toArray n Q) S n (Array.replicate n false) a w.drew):(Code.region id l.toArray true).wp P Q a w:=by
 have hl:l=l.take n++[last]:=by
  have h1:=List.take_append_drop n l
  rw[List.drop_eq_getElem_cons (by omega)]at h1
  have h2:l[n]=last:=by
   have:=List.getElem?_eq_getElem (l:=l) (i:=n) (by omega)
   rw[this]at hlast
   injection hlast
  rw[h2,List.drop_eq_nil_of_le (by omega)]at h1
  exact h1.symm
 have hlen:(l.take n).length=n:=by rw[List.length_take];omega
 have key:=zxh (Q:=Q) (id:=id) (a:=a) (w:=w) S hm hB (by rw[hlen,← hl];exact h)
 rw[← hl]at key
 exact key
end
end
section
open Go.RowKit Go.Maps
section
variable {P:Pr}
theorem zqn (wf:WfPr P){k:Nat}{i:In}(hi:P.code[k]? = some i):∀ j ∈ zg3 k i,j<P.code.length:=by
 intro j hj
 unfold zg3 at hj
 split at hj
 ·simp at hj
 ·rename_i h12
  split at hj
  ·rename_i h20
   have:j=i.to:=by simpa using hj
   subst this
   exact wf.jump k i hi (.inr (.inr h20))
  ·rename_i h20
   split at hj
   ·rename_i h13
    have:j=k+1∨j=i.to:=by simpa using hj
    rcases this with rfl | rfl
    ·exact wf.next k i hi h12 h20
    ·exact wf.jump k i hi (h13.elim .inl fun h=>.inr (.inl h))
   ·have:j=k+1:=by simpa using hj
    subst this
    exact wf.next k i hi h12 h20
theorem zot (k:Nat)(i:In):(zg3 k i).length≤2:=by
 unfold zg3
 split
 ·simp
 ·split
  ·simp
  ·split <;> simp
theorem zi1 (wf:WfPr P)(k:Nat):∀ j ∈ zap P k,j<P.code.length:=by
 intro j hj
 unfold zap at hj
 split at hj
 ·rename_i i hi
  exact zqn wf hi j hj
 ·simp at hj
theorem zls (P:Pr)(k:Nat):(zap P k).length≤2:=by
 unfold zap
 split
 ·exact zot _ _
 ·simp
theorem zrk (wf:WfPr P)(k:Nat):∀ j ∈ zdk P k,j<P.code.length:=by
 intro j hj
 unfold zdk at hj
 split at hj
 ·rename_i i hi
  rcases List.mem_append.1 hj with hj | hj
  ·exact zqn wf hi j hj
  ·split at hj
   ·split at hj
    ·rename_i f hf
     have:j=f.from_:=by simpa using hj
     subst this
     exact(wf.from_ _ f hf).1
    ·simp at hj
   ·simp at hj
 ·simp at hj
theorem zt6 (P:Pr)(k:Nat):(zdk P k).length≤3:=by
 unfold zdk
 split
 ·rename_i i _
  have:=zot k i
  rw[List.length_append]
  split
  ·split <;> simp <;> omega
  ·simp;omega
 ·simp
theorem zws (wf:WfPr P)(on:Nat→Bool)(k:Nat):∀ j ∈ zgp P on k,j<P.fs.length:=by
 intro j hj
 unfold zgp at hj
 split at hj
 ·rename_i i hi
  split at hj
  ·rename_i h
   simp at h
   have:j=i.call:=by simpa using hj
   subst this
   obtain⟨f,hf,_⟩:=wf.call k i hi (.inl h.2)
   exact(List.getElem?_eq_some_iff.1 hf).1
  ·simp at hj
 ·simp at hj
theorem zor (wf:WfPr P)(on:Nat→Bool):∀ (n k:Nat),∀ j ∈ zem P on k n,j<P.fs.length
 | 0,k,j,hj=>by simp[zem]at hj
 | n+1,k,j,hj=>by
  unfold zem at hj
  rcases List.mem_append.1 hj with hj | hj
  ·exact zws wf on k j hj
  ·exact zor wf on n (k+1) j hj
theorem zum (P:Pr)(on:Nat→Bool)(k:Nat):(zgp P on k).length≤1:=by
 unfold zgp
 split
 ·split <;> simp
 ·simp
theorem zox (P:Pr)(on:Nat→Bool):∀ (n k:Nat),(zem P on k n).length≤n
 | 0,k=>by simp[zem]
 | n+1,k=>by
  unfold zem
  rw[List.length_append]
  have:=zum P on k
  have:=zox P on n (k+1)
  omega
theorem zua (wf:WfPr P)(on:Nat→Bool)(g:Nat):∀ j ∈ zcy P on g,j<P.fs.length:=by
 intro j hj
 unfold zcy at hj
 split at hj
 ·exact zor wf on _ _ j hj
 ·simp at hj
theorem zu8 (wf:WfPr P)(on:Nat→Bool)(g:Nat):(zcy P on g).length≤300:=by
 unfold zcy
 split
 ·rename_i f hf
  have h1:=zox P on (f.to-f.from_) f.from_
  have h2:=(wf.from_ g f hf).2
  have h3:=wf.cl
  omega
 ·simp
theorem zbr.lt {next:Nat→List Nat}{start:List Nat}{N:Nat}(hs:∀ k ∈ start,k<N)(hn:∀ k,∀ j ∈ next k,j<N){k:Nat}(h:zbr next start k):k<N:=by
 induction h with
 | start h=>exact hs _ h
 | step _ h2 _=>exact hn _ _ h2
end
abbrev zh9 (l:List Bool):List Value:=l.map Value.bool
abbrev zhw (l:List Nat):List Value:=l.map fun b=>Value.map (some b)
abbrev sets (l:List Nat):List Value:=l.map zaa
theorem zsu:zbl Tryz.prog 113 4 1 1:=zbl.mk' Tryz.underlying113 (z:=.bool false) (by kernel_rfl) rfl (by decide) (by decide)
theorem zn6:zbl Tryz.prog 311 310 1 8:=zbl.mk' Tryz.underlying311 (z:=.map none) (by kernel_rfl) rfl (by decide) (by decide)
theorem tySets:zbl Tryz.prog 312 381 1 8:=zbl.mk' Tryz.underlying312 (z:=.int .u64 0) (by kernel_rfl) rfl (by decide) (by decide)
structure FlM (C:AX)(w:World)(V:FV)(on lo ma:Nat→Bool)(Ms:List Bool)(Rs:List Nat)(RS:Nat→Nat→Bool)(Bs:List Nat):Prop where
 h:FlH C w V on lo ma
 lB:C.w0.heap.size≤V.lob
 lon:V.lob≠V.onb
 s:w.ownsRow C.w0.heap.size 4 1 V.sv Ms.length (zh9 Ms)
 r:w.ownsRow C.w0.heap.size 310 1 V.rv Rs.length (zhw Rs)
 b:w.ownsRow C.w0.heap.size 381 1 V.bv Bs.length (sets Bs)
 rm:∀ i rb,Rs[i]? = some rb→MkE w rb (RS i)∧V.lob≠rb∧V.mab≠rb
section
variable {C:AX} {w w':World} {V:FV} {on lo ma:Nat→Bool} {Ms:List Bool} {Rs:List Nat} {RS:Nat→Nat→Bool} {Bs:List Nat}
theorem FlM.below {N:Nat}(h:FlM C w V on lo ma Ms Rs RS Bs)(hb:Below N w w')(hN:w.heap.size≤N):FlM C w' V on lo ma Ms Rs RS Bs :=
 ⟨h.h.below hb hN,h.lB,h.lon,zbz h.s hb fun k e=>Nat.lt_of_lt_of_le (h.s.lt k e).2 hN,zbz h.r hb fun k e=>Nat.lt_of_lt_of_le (h.r.lt k e).2 hN,zbz h.b hb fun k e=>Nat.lt_of_lt_of_le (h.b.lt k e).2 hN,
  fun i rb hi=>⟨(h.rm i rb hi).1.below hb (Nat.lt_of_lt_of_le (h.rm i rb hi).1.lt hN),(h.rm i rb hi).2⟩⟩
theorem FlM.drewN (h:FlM C w V on lo ma Ms Rs RS Bs)(n:Nat):FlM C (w.drewN n) V on lo ma Ms Rs RS Bs:=h.below (zft (Below.refl _ w) n) (Nat.le_refl _)
theorem FlM.drew (h:FlM C w V on lo ma Ms Rs RS Bs):FlM C w.drew V on lo ma Ms Rs RS Bs:=h.below (Below.refl _ w).drew (Nat.le_refl _)
theorem FlM.alloc (h:FlM C w V on lo ma Ms Rs RS Bs)(o:Obj):FlM C (w.alloc o) V on lo ma Ms Rs RS Bs:=h.below ((Below.refl w.heap.size w).alloc (Nat.le_refl _) o) (Nat.le_refl _)
theorem FlH.turned {g:Nat}{t:TypeId}{cs:Array Value}(h:FlH C w V on lo ma)(hb:Blk w g t cs)(ht:314≠t)(hB:C.w0.heap.size≤g)(hg:w.grownBy w' (some g)):FlH C w' V on lo ma:=by
 have hf:∀ b S,MkE w b S→w'.heap[b]? = w.heap[b]? := fun b S hm=>hg.block b hm.lt (fun e=>hm.cellFar hb (by injection e))
 exact h.same (h.onw.grown hg h.onw.size (fun k e=>by cases e;exact hB)) (hg.block _ h.f.lt (fun e=>h.f.ne_ hb ht (by injection e))) (hf _ _ h.on) (hf _ _ h.lo) (hf _ _ h.ma)
theorem zh3 {B B0:Nat}{e t:TypeId}{size n:Nat}{v:Value}{xs:List Value}{g:Nat}{cs:Array Value}(h:w.ownsRow B e size v n xs)(hb:Blk w g t cs)(ht:e≠t)(hg:w.grownBy w' (some g)):w'.ownsRow B e size v n xs :=
 zcr h fun k hk=>hg.block k (h.lt k hk).2 (fun e'=>by
  injection e' with e'
  subst e'
  obtain⟨cs',h'⟩:=zba h hk
  exact ht (Blk.inj h' hb).1)
theorem FlM.grown {t:TypeId}{size n:Nat}{v:Value}{xs:List Value}(h:FlM C w V on lo ma Ms Rs RS Bs)(hr:w.ownsRow C.w0.heap.size t size v n xs)(hg:w.grownBy w' v.ownBlock)(ht:314≠t) :
  FlH C w' V on lo ma∧(4≠t→w'.ownsRow C.w0.heap.size 4 1 V.sv Ms.length (zh9 Ms))∧(310≠t→w'.ownsRow C.w0.heap.size 310 1 V.rv Rs.length (zhw Rs)) ∧
  (381≠t→w'.ownsRow C.w0.heap.size 381 1 V.bv Bs.length (sets Bs))∧(∀ i rb,Rs[i]? = some rb→MkE w' rb (RS i)∧V.lob≠rb∧V.mab≠rb):=by
 cases hv:v.ownBlock with
 | none =>
  rw[hv]at hg
  have hb:Below w.heap.size w w':=(Below.refl _ _).grown hg (Nat.le_refl _) (fun k e=>by cases e)
  have h':=h.below hb (Nat.le_refl _)
  exact⟨h'.h,fun _=>h'.s,fun _=>h'.r,fun _=>h'.b,h'.rm⟩
 | some g =>
  rw[hv]at hg
  obtain⟨cs,hb⟩:=zba hr hv
  exact⟨h.h.turned hb ht (hr.lt g hv).1 hg,fun e=>zh3 (B0:=0) h.s hb e hg,fun e=>zh3 (B0:=0) h.r hb e hg,fun e=>zh3 (B0:=0) h.b hb e hg,
   fun i rb hi=>⟨(h.rm i rb hi).1.of_block (hg.block _ (h.rm i rb hi).1.lt (fun e=>(h.rm i rb hi).1.cellFar hb (by injection e))),(h.rm i rb hi).2⟩⟩
theorem FlH.store (h:FlH C w V on lo ma)(V':FV)(j:Nat)(u:Value)(h1:V'.fb=V.fb)(h2:V'.onb=V.onb)(h3:V'.lob=V.lob)(h4:V'.mab=V.mab)(hc:(ziq C V).setIfInBounds j u=ziq C V'):FlH C (w.setCell ⟨V.fb,j,none⟩ u) V' on lo ma:=by
 refine⟨h.c,h.onw.setCell h.fB _,by rw[h1];exact h.fB,?_,by rw[h2];exact h.on.farB h.f _ _,by rw[h3];exact h.lo.farB h.f _ _,by rw[h4];exact h.ma.farB h.f _ _,by rw[h4];exact h.mB,by rw[h4,h2];exact h.mo,by rw[h4,h3];exact h.ml⟩
 rw[h1]
 exact(h.f.set_ j u).cast hc
theorem FlM.many {x:Bool}{g cap:Nat}(h:FlM C w V on lo ma Ms Rs RS Bs)(hrow:w'.ownsRow C.w0.heap.size 4 1 (.slice (some ⟨g,0,none⟩) (Ms.length+1) cap) (Ms.length+1) (zh9 Ms++[.bool x]))(hg:w.grownBy w' V.sv.ownBlock) :
  FlM C (w'.setCell ⟨V.fb,2,none⟩ (.slice (some ⟨g,0,none⟩) (Ms.length+1) cap)) { V with sv:=.slice (some ⟨g,0,none⟩) (Ms.length+1) cap } on lo ma (Ms++[x]) Rs RS Bs:=by
 obtain⟨a,_,c,d,e⟩:=h.grown h.s hg (by decide)
 exact⟨a.store { V with sv:=_ } 2 _ rfl rfl rfl rfl (by simp[ziq]),h.lB,h.lon,by have:=zaj hrow a.f (by decide) 2 (.slice (some ⟨g,0,none⟩) (Ms.length+1) cap);simpa [zh9] using this,zaj (c (by decide)) a.f (by decide) _ _,zaj (d (by decide)) a.f (by decide) _ _,
  fun i rb hi=>⟨(e i rb hi).1.farB a.f _ _,(e i rb hi).2⟩⟩
theorem FlM.belows {x:Nat}{g cap:Nat}(h:FlM C w V on lo ma Ms Rs RS Bs)(hrow:w'.ownsRow C.w0.heap.size 381 1 (.slice (some ⟨g,0,none⟩) (Bs.length+1) cap) (Bs.length+1) (sets Bs++[zaa x]))(hg:w.grownBy w' V.bv.ownBlock) :
  FlM C (w'.setCell ⟨V.fb,4,none⟩ (.slice (some ⟨g,0,none⟩) (Bs.length+1) cap)) { V with bv:=.slice (some ⟨g,0,none⟩) (Bs.length+1) cap } on lo ma Ms Rs RS (Bs++[x]):=by
 obtain⟨a,b,c,_,e⟩:=h.grown h.b hg (by decide)
 exact⟨a.store { V with bv:=_ } 4 _ rfl rfl rfl rfl (by simp[ziq]),h.lB,h.lon,zaj (b (by decide)) a.f (by decide) _ _,zaj (c (by decide)) a.f (by decide) _ _,by have:=zaj hrow a.f (by decide) 4 (.slice (some ⟨g,0,none⟩) (Bs.length+1) cap);simpa [sets] using this,
  fun i rb hi=>⟨(e i rb hi).1.farB a.f _ _,(e i rb hi).2⟩⟩
theorem FlM.roots {m:Nat}{S:Nat→Bool}{g cap:Nat}(h:FlM C w V on lo ma Ms Rs RS Bs)(hm:MkE w m S)(hml:V.lob≠m)(hmm:V.mab≠m)(hS:RS Rs.length=S)(hrow:w'.ownsRow C.w0.heap.size 310 1 (.slice (some ⟨g,0,none⟩) (Rs.length+1) cap) (Rs.length+1) (zhw Rs++[.map (some m)]))(hg:w.grownBy w' V.rv.ownBlock) :
  FlM C (w'.setCell ⟨V.fb,3,none⟩ (.slice (some ⟨g,0,none⟩) (Rs.length+1) cap)) { V with rv:=.slice (some ⟨g,0,none⟩) (Rs.length+1) cap } on lo ma Ms (Rs++[m]) RS Bs:=by
 obtain⟨a,b,_,d,e⟩:=h.grown h.r hg (by decide)
 have hm':MkE w' m S:=hm.of_block (hg.block _ hm.lt (fun e'=>by
  obtain⟨cs,hb⟩:=zba h.r e'.symm
  exact hm.cellFar hb rfl))
 refine⟨a.store { V with rv:=_ } 3 _ rfl rfl rfl rfl (by simp[ziq]),h.lB,h.lon,zaj (b (by decide)) a.f (by decide) _ _,by have:=zaj hrow a.f (by decide) 3 (.slice (some ⟨g,0,none⟩) (Rs.length+1) cap);simpa [zhw] using this,zaj (d (by decide)) a.f (by decide) _ _,?_⟩
 intro i rb hi
 rcases Nat.lt_or_ge i Rs.length with hl | hl
 ·rw[List.getElem?_append_left hl]at hi
  exact⟨(e i rb hi).1.farB a.f _ _,(e i rb hi).2⟩
 ·rw[List.getElem?_append_right hl]at hi
  have hlt:=(List.getElem?_eq_some_iff.1 hi).1
  simp at hlt
  have hi0:i=Rs.length:=by omega
  subst hi0
  simp at hi
  subst hi
  rw[hS]
  exact⟨hm'.farB a.f _ _,hml,hmm⟩
theorem FlM.markLo {k:Nat}(h:FlM C w V on lo ma Ms Rs RS Bs)(hm:MkE w' V.lob (fun j=>decide (j=k)||lo j))(hg:w.grownBy w' (some V.lob)):FlM C w' V on (fun j=>decide (j=k)||lo j) ma Ms Rs RS Bs:=by
 have hb:C.on w':=h.h.onw.grown hg h.h.onw.size (fun k e=>by cases e;exact h.lB)
 have hrow:∀ {B e size n v xs},w.ownsRow B e size v n xs→w'.ownsRow B e size v n xs:=fun hr=>zcr hr fun k hk=>hg.block k (hr.lt k hk).2 (fun e=>by
  injection e with e
  subst e
  obtain⟨cs,hb⟩:=zba hr hk
  exact h.h.lo.cellFar hb rfl)
 refine⟨⟨h.h.c,hb,h.h.fB,(hg.block _ h.h.f.lt (fun e=>h.h.lo.cellFar h.h.f (by injection e with e;exact e.symm))).trans h.h.f,h.h.on.of_block (hg.block _ h.h.on.lt (fun e=>h.lon (by injection e with e;exact e.symm))),hm,h.h.ma.of_block (hg.block _ h.h.ma.lt (fun e=>h.h.ml (by injection e))),h.h.mB,h.h.mo,h.h.ml⟩,h.lB,h.lon,hrow h.s,hrow h.r,hrow h.b,?_⟩
 intro i rb hi
 obtain⟨a,b,c⟩:=h.rm i rb hi
 exact⟨a.of_block (hg.block _ a.lt (fun e=>b (by injection e with e;exact e.symm))),b,c⟩
end
end
section
open Go.RowKit Go.Maps
set_option linter.unusedSimpArgs false
theorem ent (g:Nat){fn:Func}(hf:Tryz.prog.funcs[g]? = some fn) (hn:(fn.name == "runtime.NumGoroutine")=false) (hb:fn.body.isSome=true) (args:Array Value) (w:World):(callFunc g args).run Tryz.prog w=.ok (.enter g args) w:=by
 obtain⟨c,hc⟩:=Option.isSome_iff_exists.1 hb
 exact enters_of hf hn hc args w
section
variable {C:AX} (HC:AXok C)
include HC
theorem from_on (w:World)(fb vf vp rb:Nat)(m:Nat)(f:Fu)(hf:C.P.fs[m]? = some f)(hon:C.on w)(h0:w.cell? ⟨fb,0,none⟩=some (.pointer (some ⟨C.pb,0,none⟩)))(hvf:w.cell? ⟨vf,0,none⟩=some (.pointer (some ⟨fb,0,none⟩)))(hvp:w.cell? ⟨vp,0,none⟩=some (.pointer (some ⟨C.pb,0,none⟩)))
  (hl:fb<w.heap.size∧vf<w.heap.size∧vp<w.heap.size) (hr:Blk w rb 3 #[.int .i64 (f.from_:Int)]) :
  Calls Tryz.prog 217 #[.func (.func 218) #[] #[.pointer (some ⟨vf,0,none⟩),.pointer (some ⟨vp,0,none⟩)],.slice (some ⟨rb,0,none⟩) 1 1] w (zik w (zdk C.P) [f.from_]):=by
 refine znh 218 #[] #[.pointer (some ⟨vf,0,none⟩),.pointer (some ⟨vp,0,none⟩)] (zdk C.P) [f.from_] (some ⟨rb,0,none⟩) 1 rb C.P.code.length 3 w (ent _ Tryz.func218 (by kernel_rfl) rfl) (by have:=HC.wf.cl;omega) (by omega) (by simp)
  ⟨rfl,.inr ⟨rb,1,_,rfl,Nat.le_refl _,hr,by simp,by simp[maxLen],by simp,by simp[ints]⟩⟩ (by simp) (fun k hk=>⟨hk.lt (fun j hj=>by rw[List.mem_singleton.1 hj];exact(HC.wf.from_ m f hf).1) (zrk HC.wf),zt6 _ _⟩) ?_
 intro k W hk hb
 have hk':k<C.P.code.length:=hk.lt (fun j hj=>by rw[List.mem_singleton.1 hj];exact(HC.wf.from_ m f hf).1) (zrk HC.wf)
 obtain⟨i,hi⟩:∃ i,C.P.code[k]? = some i:=⟨_,List.getElem?_eq_getElem hk'⟩
 exact zxc C HC W fb vf vp k i (hon.trans (hb.mono hon.size)) ((hb.cell (p:=⟨fb,0,none⟩) hl.1).trans h0) ((hb.cell (p:=⟨vf,0,none⟩) hl.2.1).trans hvf) ((hb.cell (p:=⟨vp,0,none⟩) hl.2.2).trans hvp) hi (Nat.lt_of_lt_of_le hl.2.2 hb.size)
theorem zxw (w:World)(fb k:Nat)(b0:Option Addr)(c0 B0:Nat)(hon:C.on w)(h0:w.cell? ⟨fb,0,none⟩=some (.pointer (some ⟨C.pb,0,none⟩)))(hl:fb<w.heap.size)
  (hr:w.ownsRow B0 3 1 (.slice b0 (zap C.P k).length c0) (zap C.P k).length (ints (zap C.P k))) (hn:(zap C.P k).length=0→b0=none∧c0=0) :
  Calls Tryz.prog 217 #[.func (.func 219) #[.pointer (some ⟨fb,0,none⟩)] #[],.slice b0 (zap C.P k).length c0] w (zik w (zap C.P) (zap C.P k)):=by
 have hlt:∀ j,zbr (zap C.P) (zap C.P k) j→j<C.P.code.length:=fun j hj=>hj.lt (zi1 HC.wf k) (zi1 HC.wf)
 refine znh 219 #[.pointer (some ⟨fb,0,none⟩)] #[] (zap C.P) (zap C.P k) b0 c0 B0 C.P.code.length 2 w (ent _ Tryz.func219 (by kernel_rfl) rfl) (by have:=HC.wf.cl;omega) (by omega) (by have:=zls C.P k;omega)
  hr hn (fun j hj=>⟨hlt j hj,zls _ _⟩) ?_
 intro j W hj hb
 obtain⟨i,hi⟩:∃ i,C.P.code[j]? = some i:=⟨_,List.getElem?_eq_getElem (hlt j hj)⟩
 exact zkf C HC W fb j i (hon.trans (hb.mono hon.size)) ((hb.cell (p:=⟨fb,0,none⟩) hl).trans h0) hi
theorem zr5 {w:World}{V:FV}{on lo ma:Nat→Bool}(h:FlH C w V on lo ma)(rb g:Nat)(hg:g<C.P.fs.length)(hr:Blk w rb 3 #[.int .i64 (g:Int)]) :
  Calls Tryz.prog 217 #[.func (.func 274) #[.pointer (some ⟨V.fb,0,none⟩)] #[],.slice (some ⟨rb,0,none⟩) 1 1] w (zik w (zcy C.P on) [g]):=by
 have hlt:∀ j,zbr (zcy C.P on) [g] j→j<C.P.fs.length:=fun j hj=>hj.lt (fun k hk=>by rw[List.mem_singleton.1 hk];exact hg) (zua HC.wf on)
 refine znh 274 #[.pointer (some ⟨V.fb,0,none⟩)] #[] (zcy C.P on) [g] (some ⟨rb,0,none⟩) 1 rb C.P.fs.length 300 w (ent _ Tryz.func274 (by kernel_rfl) rfl) (by have:=HC.wf.fl;omega) (by omega) (by simp)
  ⟨rfl,.inr ⟨rb,1,_,rfl,Nat.le_refl _,hr,by simp,by simp[maxLen],by simp,by simp[ints]⟩⟩ (by simp) (fun k hk=>⟨hlt k hk,zu8 HC.wf on k⟩) ?_
 intro j W hj hb
 obtain⟨f,hf⟩:∃ f,C.P.fs[j]? = some f:=⟨_,List.getElem?_eq_getElem (hlt j hj)⟩
 exact ztb C W V on lo ma j f (h.below hb (Nat.le_refl _)) hf
end
def OnIs (P:Pr)(on:Nat→Bool):Prop:=∀ k,on k=true↔∃ f,P.fs[P.main]? = some f∧zbr (zdk P) [f.from_] k
def LoIs (P:Pr)(lo:Nat→Bool):Prop:=∀ k,lo k=true↔k<P.code.length∧zbr (zap P) (zap P k) k
def MaIs (P:Pr)(on lo ma:Nat→Bool):Prop:=∀ g,ma g=true↔zgr P on lo g
theorem ztr (C:AX)(w0:World)(V:FV)(on lo:Nat→Bool):zrx (zfe C w0 V on lo) (fun ma=>zf4 ma C.P.fs.length) ⟨222,#[.pointer (some ⟨V.fb,0,none⟩)],#[]⟩ (zjq C.P on lo) :=
 ⟨ent _ Tryz.func222 (by kernel_rfl) rfl,fun s W h=>zus C w0 W V on lo s h⟩
theorem often_is {P:Pr}{on lo ma:Nat→Bool}(hs:∀ g,ma g=true→zgr P on lo g)(hc:zjq P on lo ma):MaIs P on lo ma:=fun g=>⟨hs g,fun h=>by
 refine h ma fun g hg ht=>?_
 cases hm:ma g
 ·rw[hc g hg hm]at ht;cases ht
 ·rfl⟩
theorem zte {C:AX}{w:World}{V:FV}{on lo:Nat→Bool}(h:FlH C w V on lo fun _=>false)(rb:Nat)(hr:Blk w rb 37 #[.func (.func 222) #[.pointer (some ⟨V.fb,0,none⟩)] #[]]) :
  Calls Tryz.prog 221 #[.slice (some ⟨rb,0,none⟩) 1 1] w fun e w'=>e=.returned (.tuple #[])∧∃ ma,FlH C w' V on lo ma∧MaIs C.P on lo ma∧w.grownBy w' (some V.mab):=by
 have hne:rb≠V.mab:=fun e=>h.ma.cellFar hr e.symm
 refine(zkb (zfe C w V on lo) (fun ma=>zf4 ma C.P.fs.length) [⟨222,#[.pointer (some ⟨V.fb,0,none⟩)],#[]⟩] [zjq C.P on lo] rb 1 w (fun _=>false) rfl (by simp) ⟨h,by simp,World.grownBy.refl _ _⟩ ?_ ?_).mono ?_
 ·intro s W hI j r hj
  have hb:Blk W rb 37 #[.func (.func 222) #[.pointer (some ⟨V.fb,0,none⟩)] #[]]:=hr.grown hI.k (fun e=>hne (by injection e))
  cases j with
  | zero=>simp at hj;subst hj;exact hb.cell 0
  | succ j=>simp at hj
 ·intro j r c hj hc
  cases j with
  | zero=>simp at hj hc;subst hj hc;exact ztr C w V on lo
  | succ j=>simp at hj
 ·rintro e w' ⟨ma,rfl,hI,hcl⟩
  exact⟨rfl,ma,hI.h,often_is hI.s (hcl _ (by simp)),hI.k⟩
end
section
open Go.RowKit Go.Shelf
attribute [local go_sem] Oper.semAt_some
def mems (s:Nat):List Nat:=(List.range 48).filter fun k=>s.testBit k
def zef (s k:Nat):List Nat:=(List.range k).filter fun k=>s.testBit k
theorem zmt (s k:Nat):zef s (k+1)=if s.testBit k then zef s k++[k]else zef s k:=by
 unfold zef
 rw[List.range_succ,List.filter_append]
 cases h:s.testBit k <;> simp[h]
theorem mems_at {s k:Nat}(hk:k<48)(h:s.testBit k=true):(mems s)[(zef s k).length]? = some k:=by
 have h1:mems s=zef s (k+1)++((List.range (47-k)).map (k+1 + ·)).filter fun k=>s.testBit k:=by
  unfold mems zef
  rw[← List.filter_append,← List.range_add]
  congr 2
  omega
 rw[h1,zmt,if_pos h,List.append_assoc,List.getElem?_append_right (Nat.le_refl _)]
 simp
theorem zs0 {s k:Nat}(hk:k≤48)(h:s >>> k=0):zef s k=mems s:=by
 have h1:mems s=zef s k++((List.range (48-k)).map (k + ·)).filter fun k=>s.testBit k:=by
  unfold mems zef
  rw[← List.filter_append,← List.range_add]
  congr 2
  omega
 rw[h1,List.filter_eq_nil_iff.2,List.append_nil]
 intro j hj
 obtain⟨i,_,rfl⟩:=List.mem_map.1 hj
 rw[← Nat.testBit_shiftRight,h]
 simp
theorem zje {s k:Nat}(hs:s<2 ^ 48):k ∈ mems s↔s.testBit k=true:=by
 unfold mems
 rw[List.mem_filter,List.mem_range]
 refine⟨fun h=>h.2,fun h=>⟨?_,h⟩⟩
 rcases Nat.lt_or_ge k 48 with h1 | h1
 ·exact h1
 ·rw[Nat.testBit_lt_two_pow (Nat.lt_of_lt_of_le hs (Nat.pow_le_pow_right (by omega) h1))]at h
  cases h
theorem zoy {s k:Nat}(h:k ∈ mems s):k<48:=by
 unfold mems at h
 have:=(List.mem_filter.1 h).1
 simpa using this
theorem shr_zero {s:Nat}(hs:s<2 ^ 48){k:Nat}(hk:48≤k):s >>> k=0:=by
 rw[Nat.shiftRight_eq_div_pow]
 exact Nat.div_eq_of_lt (Nat.lt_of_lt_of_le hs (Nat.pow_le_pow_right (by omega) hk))
theorem zkv (n s:Nat)(hs:s<2 ^ 48):SeqOf n Tryz.prog 237 #[zaa s] #[] ((mems s).map fun k:Nat=>Value.int .i64 (k:Int)):=by
 intro l J Jx W hY h0
 have HY:=zH hY
 clear hY
 refine callsIn_of_wp Tryz.func237 rfl trivial ?_ rfl
 simp only[Tryz.ntmps237,List.size_toArray,List.length_cons,List.length_nil,Nat.reduceAdd,Nat.reduceSub,Array.replicate_succ,Array.replicate_zero,List.push_toArray,List.append_toArray,List.nil_append,List.cons_append]
 gi_wp2
 gi_loopw [4] (fun v4 wr=>∃ k:Nat,v4=.int .i64 k∧k≤48∧J (zef s k).length wr) (fun v4 _=>48-(intOf v4).toNat)
 case atStart=>exact⟨0,rfl,Nat.zero_le _,h0⟩
 case round =>
  obtain⟨k,rfl,hk,hJ⟩:=hrel
  have hsh:=zp1 s k
  have h0':s >>> k<2 ^ 48:=Nat.lt_of_le_of_lt (by rw[Nat.shiftRight_eq_div_pow];exact Nat.div_le_self _ _) hs
  have hkk:(k:Int)<64:=by omega
  have HJ:=zH hJ
  have HK:=zH hk
  clear hJ
  by_cases hz:s >>> k=0
  ·have hd:decide ((0:Int)<(s:Int) >>> k)=false:=by
    have e:(s:Int) >>> k=((s >>> k:Nat):Int):=rfl
    rw[e,hz];rfl
   have HE:=zH (zs0 HK.out hz)
   clear hz
   gi_wp2
   first | go_end0 | refine bodyPost_ret (results_none rfl _ _ _) rfl ?_
   exact⟨⟨_,rfl⟩,.inl (by have:=HJ.out;rw[HE.out]at this;simpa using this)⟩
  ·have hd:decide ((0:Int)<(s:Int) >>> k)=true:=by
    have e:(s:Int) >>> k=((s >>> k:Nat):Int):=rfl
    rw[e,decide_eq_true_iff];exact_mod_cast Nat.pos_of_ne_zero hz
   have hk2:k<48:=by
    rcases Nat.lt_or_ge k 48 with h | h
    ·exact h
    ·exact absurd (shr_zero hs h) hz
   have HH:=zH (zkd s k wr hs hk2)
   clear hz
   cases hb:s.testBit k
   ·have HS:=zH (show zef s (k+1)=zef s k by rw[zmt,hb];rfl)
    have HB:=zH hb
    clear hb
    gi_wp2
    refine⟨trivial,(fun h=>by simp[Fence.wide]at h),?_⟩
    refine(callsIn_wide.2 HH.out).mono ?_
    rw[HB.out]
    rintro e w' ⟨rfl,rfl⟩
    gi_wp2
    refine⟨fun _ h=>(by cases h),?_⟩
    gi_wp2
    go_roundw
    case rel=>exact⟨k+1,by push_cast;rfl,hk2,by rw[HS.out];exact HJ.out⟩
    case measure=>simp only[intOf];omega
   ·have HS:=zH (show zef s (k+1)=zef s k++[k] by rw[zmt,hb];rfl)
    have HB:=zH hb
    obtain⟨fn,tmps,assign,body,hy,hR⟩:=HY.out _ _ wr (by rw[List.getElem?_map,mems_at hk2 hb];rfl) HJ.out
    clear hb
    gi_wp2
    refine⟨trivial,(fun h=>by simp[Fence.wide]at h),?_⟩
    refine(callsIn_wide.2 HH.out).mono ?_
    rw[HB.out]
    rintro e w' ⟨rfl,rfl⟩
    gi_wp2
    refine⟨(fun h=>by simp[Fence.wide]at h),hR.mono ?_⟩
    rintro e W' (⟨rfl,hJ'⟩ | ⟨rfl,hJx'⟩)
    ·gi_wp2
     go_roundw
     case rel=>exact⟨k+1,by push_cast;rfl,hk2,by rw[HS.out,List.length_append];exact hJ'⟩
     case measure=>simp only[intOf];omega
    ·gi_wp2
     refine bodyPost_ret (results_none rfl _ _ _) rfl ?_
     exact⟨⟨_,rfl⟩,.inr hJx'⟩
end
section
open Go.RowKit Go.Shelf
attribute [local go_sem] Oper.semAt_some
structure ApI (w:World)(l:List Nat)(i:Nat)(W:World):Prop where
 v:∃ v,Blk W w.heap.size 67 #[v]∧W.ownsRow w.heap.size 3 1 v i (ints (l.take i))∧(i=0→v=.slice none 0 0)
 b:Below w.heap.size w W
theorem ApI.recs {w W W':World}{l:List Nat}{i B:Nat}(hB:w.heap.size≤B)(h:ApI w l i W)(hr:Recs B W W'):ApI w l i W':=by
 obtain⟨⟨v,h1,h2,h3⟩,h4⟩:=h
 exact⟨⟨v,h1.recs hr,zku h2 hr,h3⟩,h4.trans (hr.below.mono hB)⟩
theorem zvj (gf:Nat)(first cap:Array Value)(l:List Nat)(w:World)(hl:l.length≤1000)(eg:∀ args w,(callFunc gf args).run Tryz.prog w=.ok (.enter gf args) w)
  (hseq:SeqOf 2 Tryz.prog gf first cap (ints l)) :
  Calls Tryz.prog 288 #[.slice none 0 0,.func (.func gf) first cap] w (zdw w l):=by
 refine zjv Tryz.func288 rfl ?_
 simp only[Tryz.ntmps288,List.size_toArray,List.length_cons,List.length_nil,Nat.reduceAdd,Nat.reduceSub,Array.replicate_succ,Array.replicate_zero,List.push_toArray,List.append_toArray,List.nil_append,List.cons_append]
 go_wp2_with fail
 refine(wpIn_wide (n:=3)).1 (zkx (gf:=gf) (first:=first) (cap:=cap) rfl eg hseq rfl (ApI w l) (fun _ _=>False) (fun i W W' hr h=>h.recs (by simp) hr) (fun _ _ _ _ h=>h)
  ⟨⟨_,Blk.newAt rfl,World.ownsRow_nil _ _ _ _,fun _=>rfl⟩,(Below.refl _ w).alloc (Nat.le_refl _) _⟩
  (fun x=>{ tmps:=#[Value.slice none 0 0,Value.func (Fn.func gf) first cap,Value.pointer (some { block:=w.heap.size,off:=0 }),undef,Value.slice none 0 0,x,Value.func (Fn.func gf) first cap,x,undef,undef,undef,undef,undef],defers:=[] }) ?assign ?body ?done ?stop)
 case assign =>
  intro l x W K hK
  gi_wp2
  exact hK
 case body =>
  rintro lr i x W hx hI hz
  obtain⟨y,hy,rfl⟩:∃ y,l[i]? = some y∧zeg y=x:=by simpa [ints] using hx
  obtain⟨⟨v,hv,hr,hn⟩,hb⟩:=hI
  have hvc:=hv.cell
  have hvf:=hv.frozen
  have hvl:=hv.lt
  have hi:i<l.length:=(List.getElem?_eq_some_iff.1 hy).1
  have HV:=zH hv
  have HR:=zH hr
  have HN:=zH hn
  have HB:=zH hb
  have HY:=zH hy
  clear hv hr hn hb hy hx
  refine wpIn_block ?_
  refine zuw (by kernel_rfl) ?_
  go_wp2_with (refine zhc zji rfl _ _ rfl w.heap.size _ i (ints (l.take i)) W.heap.size _ _ (HR.out.alloc _) (Blk.newAt rfl) rfl rfl rfl (by simp[Value.oneCell',zeg]) (by omega) (by simp;omega) ?_;intro g cap w2 hrow2 hg2 hat2;have hv2:=(HV.out.alloc (.cells #[zeg y] 3)).append (HR.out.alloc (.cells #[zeg y] 3)) hg2 (by decide);have hv2c:=hv2.cell;have hv2f:=hv2.frozen;have hv2l:=hv2.lt)
  refine zgo ?_
  have hb2:Below w.heap.size w w2:=(HB.out.alloc (by omega) _).grown hg2 (by simp;omega) (fun k e=>(HR.out.lt k e).1)
  refine⟨((zan.refl W).alloc _ |>.trans (.of_grown hg2 fun k o e ho=>row_rec (HR.out.alloc _) e ho)).setCell hv2 _,⟨⟨.slice (some ⟨g,0,none⟩) (i+1) cap,(hv2.set_ 0 _).cast (by simp),?_,fun h=>by omega⟩,hb2.setCell (Nat.le_refl _) _⟩⟩
  refine zaj (t:=67) ?_ hv2 (by decide) 0 _
  rw[show ints (l.take (i+1))=ints (l.take i)++[zeg y] by rw[List.take_add_one,HY.out];simp[ints]]
  exact hrow2
 case done =>
  rintro W hI hD
  obtain⟨⟨v,hv,hr,hn⟩,hb⟩:=hI
  have hvc:=hv.cell
  have HV:=zH hv
  have HD:=zH hD
  have FIN:=zH (show zdw w l (.returned v) W from⟨v,rfl,by
   have:=hr
   rw[show(ints l).length=l.length by simp,List.take_length]at this
   exact this,fun h=>hn (by simpa using h),hb⟩)
  clear hv hr hn hb hD
  go_wp2_with fail
  refine zia (B:=w.heap.size) (fun W=>zdw w l (.returned v) W) (fun W W' hr h=>?_) (fun W h=>?_) _ W ⟨?_,?_⟩ FIN.out
  ·obtain⟨u,h1,h2,h3,h4⟩:=h
   exact⟨u,h1,zku h2 hr,h3,h4.trans hr.below⟩
  ·exact⟨v,(results_tmp rfl _ _ _).trans rfl,h⟩
  ·rintro d hd
   simp at hd
   exact⟨_,by simp,hd,by simpa using HD.out⟩
  ·simp
 case stop=>exact fun c W h _=>h.elim
theorem mems_len (s:Nat):(mems s).length≤48:=by
 have:=List.length_filter_le (fun k=>s.testBit k) (List.range 48)
 simpa [mems] using this
theorem zkc (args:Array Value)(w:World):(callFunc 237 args).run Tryz.prog w=.ok (.enter 237 args) w:=enters_of Tryz.func237 (by kernel_rfl) rfl args w
theorem zrz (s:Nat)(hs:s<2 ^ 48)(w:World):Calls Tryz.prog 236 #[.func (.func 237) #[zaa s] #[]] w (zdw w (mems s)):=by
 have HA:=zH (zvj 237 #[zaa s] #[] (mems s) w (Nat.le_trans (mems_len s) (by omega)) zkc (zkv 2 s hs))
 go_enter Tryz.func236,Tryz.ntmps236
 go_wp2_with fail
 refine HA.out.mono ?_
 rintro e w' ⟨v,rfl,h1,h2,h3⟩
 have H:=zH (show zdw w (mems s) (.returned v) w' from⟨v,rfl,h1,h2,h3⟩)
 clear h1 h2 h3
 go_wp2_with fail
 go_ret
 exact H.out
end
section
open Go.RowKit Go.Maps Go.Shelf
attribute [local go_sem] Oper.semAt_some
set_option linter.unusedSimpArgs false
def za0 (bl:List Nat)(s j:Nat):Bool:=(bl[s]?.getD 0).testBit j
def BelP (b0:List Nat)(s j:Nat):Prop:=∀ S:Nat→Nat→Bool,(∀ s j,za0 b0 s j=true→S s j=true)→(∀ s j k,S s j=true→S j k=true→S s k=true)→S s j=true
theorem BelP.trans {b0:List Nat}{s j k:Nat}(h:BelP b0 s j)(h':BelP b0 j k):BelP b0 s k:=fun S h1 h2=>h2 _ _ _ (h S h1 h2) (h' S h1 h2)
def lack (bl:List Nat):Nat:=(bl.map fun s=>2 ^ 48-s).sum
theorem zqw:∀ {bl:List Nat} {s x y:Nat},bl[s]? = some x→x<y→y<2 ^ 48→lack (bl.set s y)<lack bl
 | [],s,x,y,h,_,_=>by simp at h
 | a::r,0,x,y,h,h1,h2=>by
  simp at h
  subst h
  simp only[lack,List.set_cons_zero,List.map_cons,List.sum_cons]
  omega
 | a::r,s+1,x,y,h,h1,h2=>by
  have:=zqw (bl:=r) (s:=s) (by simpa using h) h1 h2
  simp only[lack,List.set_cons_succ,List.map_cons,List.sum_cons]at this ⊢
  omega
def zj6 (bl:List Nat)(s:Nat):Prop:=∀ j,za0 bl s j=true→∀ k,za0 bl j k=true→za0 bl s k=true
structure zda (C:AX)(w0:World)(V:FV)(on lo ma:Nat→Bool)(Ms:List Bool)(Rs:List Nat)(RS:Nat→Nat→Bool)(b0:List Nat)(bl:List Nat)(W:World):Prop where
 f:FlM C W V on lo ma Ms Rs RS bl
 len:bl.length=b0.length
 small:∀ (s x:Nat),bl[s]? = some x→x<2 ^ b0.length
 s:∀ s j,za0 bl s j=true→BelP b0 s j
 g:∀ s j,za0 b0 s j=true→za0 bl s j=true
 k:w0.grownBy W V.bv.ownBlock
 n5:b0.length≤5
section
variable {C:AX} {w0 w w':World} {V:FV} {on lo ma:Nat→Bool} {Ms:List Bool} {Rs:List Nat} {RS:Nat→Nat→Bool} {b0 bl:List Nat}
theorem zri {row:Option Nat}(h:w0.grownBy w row)(hb:Below w.heap.size w w'):w0.grownBy w' row:=⟨hb.os.trans h.os,hb.tape.trans h.tape,hb.output.trans h.output,Nat.le_trans h.size hb.size,fun k hk hr=>(hb.block k (Nat.lt_of_lt_of_le hk h.size)).trans (h.block k hk hr)⟩
theorem zda.below (h:zda C w0 V on lo ma Ms Rs RS b0 bl w)(hb:Below w.heap.size w w'):zda C w0 V on lo ma Ms Rs RS b0 bl w' :=
 ⟨h.f.below hb (Nat.le_refl _),h.len,h.small,h.s,h.g,zri h.k hb,h.n5⟩
theorem FlM.recs {B:Nat}(h:FlM C w V on lo ma Ms Rs RS bl)(hr:Recs B w w')(hB:C.w0.heap.size≤B):FlM C w' V on lo ma Ms Rs RS bl:=by
 have hm:∀ {b S},MkE w b S→MkE w' b S:=fun {b S} hm=>hm.of_block (by
  obtain⟨m,h⟩:=hm
  obtain⟨o,ho,hro⟩:∃ o,w.heap[b]? = some o∧zjf o=false:=by
   obtain⟨es,cl,h1,_⟩:=h.is
   exact⟨_,h1,rfl⟩
  rw[hr.same b o ho hro,ho])
 exact⟨⟨h.h.c,h.h.onw.trans (hr.below.mono hB),h.h.fB,h.h.f.recs hr,hm h.h.on,hm h.h.lo,hm h.h.ma,h.h.mB,h.h.mo,h.h.ml⟩,h.lB,h.lon,zku h.s hr,zku h.r hr,zku h.b hr,fun i rb hi=>⟨hm (h.rm i rb hi).1,(h.rm i rb hi).2⟩⟩
theorem zda.recs {B:Nat}(h:zda C w0 V on lo ma Ms Rs RS b0 bl w)(hr:Recs B w w')(hB:C.w0.heap.size≤B)(hB0:w0.heap.size≤B):zda C w0 V on lo ma Ms Rs RS b0 bl w' :=
 ⟨h.f.recs hr hB,h.len,h.small,h.s,h.g,⟨hr.os.trans h.k.os,hr.tape.trans h.k.tape,hr.output.trans h.k.output,Nat.le_trans h.k.size hr.size,fun k hk hrow=>(hr.low k (by omega)).trans (h.k.block k hk hrow)⟩,h.n5⟩
theorem zda.setNew (h:zda C w0 V on lo ma Ms Rs RS b0 bl w){g:Nat}{t:TypeId}{cs:Array Value}(hb:Blk w g t cs)(hg:w0.heap.size≤g)(hg2:C.w0.heap.size≤g)(ht:314≠t)(ht1:310≠t)(ht2:381≠t)(hs:V.sv.ownBlock≠some g)(u:Value):zda C w0 V on lo ma Ms Rs RS b0 bl (w.setCell ⟨g,0,none⟩ u):=by
 have hk:=grownBy_setCell' w g u
 refine⟨⟨h.f.h.turned hb ht hg2 hk,h.f.lB,h.f.lon,zcr h.f.s fun k e=>hk.block k (h.f.s.lt k e).2 (fun e'=>hs (by rw[e,e'])),zh3 (B0:=0) h.f.r hb ht1 hk,zh3 (B0:=0) h.f.b hb ht2 hk,fun i rb hi=>⟨(h.f.rm i rb hi).1.farB hb _ _,(h.f.rm i rb hi).2⟩⟩,h.len,h.small,h.s,h.g,?_,h.n5⟩
 exact⟨h.k.os,h.k.tape,h.k.output,Nat.le_trans h.k.size hk.size,fun k hk' hrow=>(Below.heap_setCell _ _ _ _ (by show k≠g;omega)).trans (h.k.block k hk' hrow)⟩
theorem zda.grow {bg cap s j x y:Nat}(h:zda C w0 V on lo ma Ms Rs RS b0 bl w)(hv:V.bv=.slice (some ⟨bg,0,none⟩) bl.length cap)(hx:bl[s]? = some x)(hy:bl[j]? = some y)(hj:x.testBit j=true∨BelP b0 s j) :
  zda C w0 V on lo ma Ms Rs RS b0 (bl.set s (x|||y)) (w.setCell ⟨bg,s,none⟩ (zaa (x|||y))):=by
 have hb:=h.f.b
 rw[hv]at hb
 obtain⟨cs,hbk⟩:=zba hb (k:=bg) rfl
 have hB:=(hb.lt bg rfl).1
 have hs:s<bl.length:=(List.getElem?_eq_some_iff.1 hx).1
 have hk:w.grownBy (w.setCell ⟨bg,s,none⟩ (zaa (x|||y))) (some bg):=by
  have hx:=(Below.refl 0 w).setCell (p:=⟨bg,s,none⟩) (Nat.zero_le _) (zaa (x|||y))
  exact⟨hx.os,hx.tape,hx.output,hx.size,fun k _ hk=>Below.heap_setCell _ _ _ _ (fun e=>hk (by rw[e]))⟩
 refine⟨⟨h.f.h.turned hbk (by decide) hB hk,h.f.lB,h.f.lon,zh3 (B0:=0) h.f.s hbk (by decide) hk,zh3 (B0:=0) h.f.r hbk (by decide) hk,?_,fun i rb hi=>⟨(h.f.rm i rb hi).1.farB hbk _ _,(h.f.rm i rb hi).2⟩⟩,by rw[List.length_set];exact h.len,?_,?_,?_,?_,h.n5⟩
 ·rw[List.length_set,hv,show sets (bl.set s (x|||y))=(sets bl).set s (zaa (x|||y)) by simp[sets]]
  have:=(hb.stored s (zaa (x|||y))).1
  exact this
 ·intro i z hz
  rcases Nat.decEq i s with hi | hi
  ·rw[List.getElem?_set_ne (fun e=>hi e.symm)]at hz
   exact h.small i z hz
  ·subst hi
   rw[List.getElem?_set_self hs]at hz
   injection hz with hz
   subst hz
   exact Nat.or_lt_two_pow (h.small _ _ hx) (h.small _ _ hy)
 ·intro i k hik
  unfold za0 at hik
  rcases Nat.decEq i s with hi | hi
  ·rw[List.getElem?_set_ne (fun e=>hi e.symm)]at hik
   exact h.s i k hik
  ·subst hi
   rw[List.getElem?_set_self hs]at hik
   simp only[Option.getD_some,Nat.testBit_or,Bool.or_eq_true]at hik
   rcases hik with hik | hik
   ·exact h.s i k (by unfold za0;rw[hx];exact hik)
   ·exact(hj.elim (fun hj=>h.s i j (by unfold za0;rw[hx];exact hj)) id).trans (h.s j k (by unfold za0;rw[hy];exact hik))
 ·intro i k hik
  have:=h.g i k hik
  unfold za0 at this ⊢
  rcases Nat.decEq i s with hi | hi
  ·rw[List.getElem?_set_ne (fun e=>hi e.symm)]
   exact this
  ·subst hi
   rw[hx]at this
   rw[List.getElem?_set_self hs]
   simp only[Option.getD_some,Nat.testBit_or]at this ⊢
   rw[this];rfl
 ·have h3:=h.k
  rw[hv]at h3 ⊢
  exact h3.trans hk
end
end
section
open Go.RowKit Go.Maps Go.Shelf
attribute [local go_sem] Oper.semAt_some
set_option linter.unusedSimpArgs false
structure BlP (C:AX)(w0 w:World)(V:FV)(on lo ma:Nat→Bool)(Ms:List Bool)(Rs:List Nat)(RS:Nat→Nat→Bool)(b0 bA bl:List Nat)(c:Bool)(s:Nat)(W:World):Prop where
 inv:zda C w0 V on lo ma Ms Rs RS b0 bl W
 cb:Blk W w.heap.size 4 #[.bool c]
 ls:c=true→lack bl<lack bA
 eq:c=false→bl=bA∧∀ i,i<s→zj6 bA i
 z0:w0.heap.size≤w.heap.size
 zC:C.w0.heap.size≤w.heap.size
 sv:∀ k,V.sv.ownBlock=some k→k<w.heap.size
def BlO (C:AX)(w0 w:World)(V:FV)(on lo ma:Nat→Bool)(Ms:List Bool)(Rs:List Nat)(RS:Nat→Nat→Bool)(b0 bA:List Nat)(gk:Nat)(sv:Value)(ds:List Deferred)(W:World):Prop :=
 ∃ (s:Nat) (bl:List Nat) (c:Bool),sv=.int .i64 s∧gk=b0.length-s∧s≤b0.length∧BlP C w0 w V on lo ma Ms Rs RS b0 bA bl c s W∧zbm w.heap.size W ds
def zil (N:Nat)(ds:List Deferred):Prop:=∀ d ∈ ds,∀ D,d={ target:=.collected D,args:=#[] }→D<N
theorem zbm.lt {B:Nat}{W:World}{ds:List Deferred}(h:zbm B W ds):zil W.heap.size ds:=fun d hd D e=>by
 obtain⟨D',_,h1,h2⟩:=h.1 d hd
 rw[e]at h1
 injection h1 with h1
 injection h1 with h1
 rw[h1]
 exact(Array.getElem?_eq_some_iff.1 h2).1
theorem zbm.recs {B N:Nat}{W W':World}{ds:List Deferred}(h:zbm B W ds)(hN:zil N ds)(hr:Recs N W W'):zbm B W' ds :=
 ⟨fun d hd=>by obtain⟨D,h0,h1,h2⟩:=h.1 d hd;exact⟨D,h0,h1,(hr.low D (hN d hd D h1)).trans h2⟩,h.2⟩
theorem zbm.more {B N:Nat}{W:World}{ds:List Deferred}(h:zbm B W ds)(hN:zil N ds)(hB:B≤N)(hD:W.heap[N]? = some (.deferred (some []))):zbm B W ({ target:=.collected N,args:=#[] }::ds):=by
 refine⟨fun d hd=>?_,List.nodup_cons.2 ⟨fun hd=>?_,h.2⟩⟩
 ·rcases List.mem_cons.1 hd with rfl | hd
  ·exact⟨N,hB,rfl,hD⟩
  ·exact h.1 d hd
 ·exact Nat.lt_irrefl _ (hN _ hd N rfl)
structure BlI (C:AX)(w0 w:World)(V:FV)(on lo ma:Nat→Bool)(Ms:List Bool)(Rs:List Nat)(RS:Nat→Nat→Bool)(b0 bA:List Nat)(s x sb N:Nat)(ds:List Deferred)(i:Nat)(W:World):Prop where
 ex:∃ bl c,BlP C w0 w V on lo ma Ms Rs RS b0 bA bl c s W∧(c=false→bA[s]? = some x∧∀ j ∈ (mems x).take i,∀ k,za0 bA j k=true→za0 bA s k=true)
 sb:Blk W sb 3 #[.int .i64 s]
 m:zbm w.heap.size W ds
 z:N≤W.heap.size
theorem BlP.recs {C:AX}{w0 w:World}{V:FV}{on lo ma:Nat→Bool}{Ms:List Bool}{Rs:List Nat}{RS:Nat→Nat→Bool}{b0 bA bl:List Nat}{c:Bool}{s N:Nat}{W W':World}(h:BlP C w0 w V on lo ma Ms Rs RS b0 bA bl c s W)(hr:Recs N W W')(hN:w.heap.size≤N) :
  BlP C w0 w V on lo ma Ms Rs RS b0 bA bl c s W':=⟨h.inv.recs hr (Nat.le_trans h.zC hN) (Nat.le_trans h.z0 hN),h.cb.recs hr,h.ls,h.eq,h.z0,h.zC,h.sv⟩
theorem BlI.recs {C:AX}{w0 w:World}{V:FV}{on lo ma:Nat→Bool}{Ms:List Bool}{Rs:List Nat}{RS:Nat→Nat→Bool}{b0 bA:List Nat}{s x sb N:Nat}{ds:List Deferred}{i:Nat}{W W':World}(h:BlI C w0 w V on lo ma Ms Rs RS b0 bA s x sb N ds i W)(hN:w.heap.size≤N)(hd:zil N ds)(hr:Recs N W W') :
  BlI C w0 w V on lo ma Ms Rs RS b0 bA s x sb N ds i W':=by
 obtain⟨bl,c,h1,h2⟩:=h.ex
 exact⟨⟨bl,c,h1.recs hr hN,h2⟩,h.sb.recs hr,h.m.recs hd hr,Nat.le_trans h.z hr.size⟩
theorem zs5 (C:AX)(w0 w:World)(V:FV)(on lo ma:Nat→Bool)(Ms:List Bool)(Rs:List Nat)(RS:Nat→Nat→Bool)(b0 bA:List Nat)(vf:Nat)(h:zda C w0 V on lo ma Ms Rs RS b0 bA w)(hvf:Blk w0 vf 296 #[.pointer (some ⟨V.fb,0,none⟩)])(hne:V.bv.ownBlock≠some vf) :
  Calls Tryz.prog 276 #[.pointer (some ⟨vf,0,none⟩)] w (zhm (zda C w0 V on lo ma Ms Rs RS b0) lack (fun bl=>∀ s,s<b0.length→zj6 bl s) bA):=by
 have HVF:=zH (fun bl W (h:zda C w0 V on lo ma Ms Rs RS b0 bl W)=>hvf.grown h.k (fun e=>hne e.symm))
 have hvfc:=(HVF.out bA w h).cell
 have hvfl:=(HVF.out bA w h).lt
 obtain⟨hf,hp⟩:=h.f.h.cells
 have hfbl:=h.f.h.f.lt
 obtain⟨va,vc,hv⟩:=zbx h.f.b
 rw[hv]at hf
 have hn5:=h.n5
 have hlen:=h.len
 rw[hlen]at hv hf
 have HV:=zH hv
 have H:=zH h
 have ST:=zH (show BlO C w0 w V on lo ma Ms Rs RS b0 bA b0.length (.int .i64 (0:Int)) [] (w.alloc (.cells #[.bool false] 4))from
  ⟨0,bA,false,rfl,rfl,Nat.zero_le _,⟨h.below ((Below.refl _ _).alloc (Nat.le_refl _) _),Blk.newAt rfl,fun h=>(by cases h),fun _=>⟨rfl,fun i hi=>by omega⟩,h.k.size,h.f.h.onw.size,fun k e=>(h.f.s.lt k e).2⟩,zbm.nil _ _⟩)
 clear h hvf hv
 have hmf:∀ (fn:Fn) (first cap:Array Value) (w:World),(Instr.makeFunc fn first cap).run Tryz.prog w=.ok (.func fn first cap) w:=fun _ _ _ _=>rfl
 refine zjv Tryz.func276 rfl ?_
 simp only[Tryz.ntmps276,List.size_toArray,List.length_cons,List.length_nil,Nat.reduceAdd,Nat.reduceSub,Array.replicate_succ,Array.replicate_zero,List.push_toArray,List.append_toArray,List.nil_append,List.cons_append]
 go_wp2_with fail
 clear hvfc hf hp
 refine wp_loop_ghost_k (fun gk a W=>∃ v10 ds u3 u4 u11 u12 u13 u14 u15 u16 u17 u18 u19 u20 u21 u22 u23 u24 u25 u26 u27 u28 u29 u30 u31 u32 u33 u34 u35 u36,BlO C w0 w V on lo ma Ms Rs RS b0 bA gk v10 ds W ∧
  a={ tmps:=#[.pointer (some ⟨vf,0,none⟩),.bool false,.pointer (some ⟨w.heap.size,0,none⟩),u3,u4,.pointer (some ⟨V.fb,0,none⟩),.pointer (some ⟨V.fb,0,none⟩),.pointer (some ⟨V.fb,4,none⟩),.slice va b0.length vc,.int .i64 b0.length,v10,u11,u12,u13,u14,u15,u16,u17,u18,u19,u20,u21,u22,u23,u24,u25,u26,u27,u28,u29,u30,u31,u32,u33,u34,u35,u36,undef],defers:=ds }) b0.length
  ⟨_,_,_,_,_,_,_,_,_,_,_,_,_,_,_,_,_,_,_,_,_,_,_,_,_,_,_,_,_,_,ST.out,rfl⟩ ?_
 rintro gk a wr ⟨v10,ds,u3,u4,u11,u12,u13,u14,u15,u16,u17,u18,u19,u20,u21,u22,u23,u24,u25,u26,u27,u28,u29,u30,u31,u32,u33,u34,u35,u36,hrel,rfl⟩ J K hJ hK
 obtain⟨s,bl,c,rfl,hg,hs,hP,hm⟩:=hrel
 have HG:=zH hg
 have HM:=zH hm
 have HP:=zH hP
 have hvfc:=(HVF.out bl wr hP.inv).cell
 obtain⟨hf,hp⟩:=hP.inv.f.h.cells
 rw[HV.out]at hf
 have hcbl:=hP.cb.lt
 have hfbl:=hP.inv.f.h.f.lt
 have hvfl:=(HVF.out bl wr hP.inv).lt
 have hb:=hP.inv.f.b
 have hlen:=hP.inv.len
 rw[HV.out,hlen]at hb
 have HB:=zH hb
 clear hg hm hb
 by_cases hlt:s<b0.length
 ·obtain⟨x,hx⟩:∃ x,bl[s]? = some x:=⟨_,List.getElem?_eq_getElem (by omega)⟩
  obtain⟨bg,bc,hva,hbB,hbl⟩:=HB.out.form (by omega)
  injection hva with h1 h2 h3
  subst h1 h3
  have hbc:wr.cell? ⟨bg,s,none⟩=some (zaa x):=by
   rw[HB.out.cellAt s (by omega)]
   simp[sets,hx]
  have HX:=zH hx
  clear hP hx
  go_wp2_with fail
  go_quiet (fail)
  go_wp2_with fail
  clear hvfc hf hp hcbl hfbl hvfl hlen hbc
  have hW1:Below wr.heap.size wr ((wr.alloc (.cells #[.int .i64 (s:Int)] 3)).drewN nq):=zft ((Below.refl _ _).alloc (Nat.le_refl _) _) nq
  have hS1:Blk ((wr.alloc (.cells #[.int .i64 (s:Int)] 3)).drewN nq) wr.heap.size 3 #[.int .i64 (s:Int)]:=(Blk.newAt rfl).drewN nq
  have hz1:((wr.alloc (.cells #[.int .i64 (s:Int)] 3)).drewN nq).heap.size=wr.heap.size+1:=by simp
  generalize hWe:(wr.alloc (.cells #[.int .i64 (s:Int)] 3)).drewN nq=W1 at hW1 hS1 hz1 ⊢
  clear hWe
  have hwz:w.heap.size≤wr.heap.size:=Nat.le_of_lt HP.out.cb.lt
  have hx6:=HP.out.inv.small s x HX.out
  have hx48:x<2 ^ 48:=Nat.lt_of_lt_of_le hx6 (Nat.pow_le_pow_right (by omega) (by omega))
  have HMT:=zH (show zil W1.heap.size ds from fun d hd D e=>Nat.lt_of_lt_of_le (HM.out.lt d hd D e) hW1.size)
  have INI:=zH (show BlI C w0 w V on lo ma Ms Rs RS b0 bA s x wr.heap.size W1.heap.size ds 0 W1 from
   ⟨⟨bl,c,⟨HP.out.inv.below hW1,HP.out.cb.below hW1 HP.out.cb.lt,HP.out.ls,HP.out.eq,HP.out.z0,HP.out.zC,HP.out.sv⟩,fun hc=>⟨by rw[← (HP.out.eq hc).1];exact HX.out,fun j hj=>by simp at hj⟩⟩,hS1,HM.out.low (Nat.le_refl _) hW1.block,Nat.le_refl _⟩)
  have HXS:=zH (show ∀ j,x.testBit j=true→BelP b0 s j from fun j hj=>HP.out.inv.s s j (by unfold za0;rw[HX.out];exact hj))
  have hw1z:w.heap.size≤W1.heap.size:=by omega
  clear hS1 HM HX HP
  refine(wpIn_wide (n:=3)).1 (zkx (gf:=237) (first:=#[zaa x]) (cap:=#[]) rfl zkc (zkv 2 x hx48) rfl
   (BlI C w0 w V on lo ma Ms Rs RS b0 bA s x wr.heap.size W1.heap.size ds) (fun _ _=>False) (fun i W W' hr h=>h.recs hw1z HMT.out hr) (fun _ _ _ _ h=>h) INI.out
   (fun y=>{ tmps:=#[Value.pointer (some { block:=vf,off:=0 }),Value.bool false,
     Value.pointer (some { block:=w.heap.size,off:=0 }),
     Value.pointer (some { block:=wr.heap.size,off:=0 }),y,
     Value.pointer (some { block:=V.fb,off:=0 }),Value.pointer (some { block:=V.fb,off:=0 }),
     Value.pointer (some { block:=V.fb,off:=4 }),Value.slice (some { block:=bg,off:=0 }) b0.length vc,
     Value.int IntKind.i64 ↑b0.length,Value.int IntKind.i64 ↑s,Value.bool true,Value.int IntKind.i64 ↑s,
     Value.pointer (some { block:=V.fb,off:=0 }),Value.pointer (some { block:=V.fb,off:=0 }),
     Value.pointer (some { block:=V.fb,off:=4 }),Value.slice (some { block:=bg,off:=0 }) b0.length vc,
     Value.int IntKind.i64 ↑s,Value.pointer (some { block:=bg,off:=s }),zaa x,
     Value.func (Fn.func 237) #[zaa x] #[],y,u22,u23,u24,u25,u26,u27,u28,u29,u30,u31,u32,u33,u34,
     u35,u36,undef],defers:=[] }) ?assign ?body ?done ?stop)
  case assign =>
   intro l x W K hK
   gi_wp2
   exact hK
  case stop=>exact fun c W h _=>h.elim
  case done =>
   rintro W hI hD
   obtain⟨bl2,c2,h1,h2⟩:=hI.ex
   have REL:=zH (show BlO C w0 w V on lo ma Ms Rs RS b0 bA (b0.length-(s+1)) (.int .i64 ((s+1:Nat):Int)) ({ target:=.collected W1.heap.size,args:=#[] }::ds) W from
    ⟨s+1,bl2,c2,rfl,rfl,hlt,⟨h1.inv,h1.cb,h1.ls,fun hc=>⟨(h1.eq hc).1,fun i hi=>by
     rcases Nat.lt_or_ge i s with h | h
     ·exact(h1.eq hc).2 i h
     ·obtain rfl:i=s:=by omega
      intro j hj k hk
      obtain⟨e1,e2⟩:=h2 hc
      refine e2 j ?_ k hk
      rw[show((mems x).map fun k:Nat=>Value.int .i64 (k:Int)).length=(mems x).length by simp,List.take_length,zje hx48]
      unfold za0 at hj
      rw[e1]at hj
      exact hj⟩,h1.z0,h1.zC,h1.sv⟩,hI.m.more HMT.out hw1z hD⟩)
   clear h1 h2 hI hD
   go_wp2_with fail
   go_roundg (b0.length-(s+1))
   case measure=>have:=HG.out;omega
   case rel=>exact REL.out
  case body =>
   rintro l i y W hy hI hz
   obtain⟨j,hj,rfl⟩:∃ j,(mems x)[i]? = some j∧Value.int .i64 (j:Int)=y:=by simpa using hy
   obtain⟨bl2,c2,P2,hc2⟩:=hI.ex
   have hvfc:=(HVF.out bl2 W P2.inv).cell
   obtain⟨hf,hp⟩:=P2.inv.f.h.cells
   rw[HV.out]at hf
   have hcbc:=P2.cb.cell
   have hcbf:=P2.cb.frozen
   have hcbl:=P2.cb.lt
   have hfbl:=P2.inv.f.h.f.lt
   have hvfl:=(HVF.out bl2 W P2.inv).lt
   have hsbc:=hI.sb.cell
   have hsbl:=hI.sb.lt
   have hb:=P2.inv.f.b
   have hlen:=P2.inv.len
   rw[HV.out,hlen]at hb
   have hbf:=hb.frozenAt s
   have hjx:x.testBit j=true:=(zje hx48).1 (List.mem_of_getElem? hj)
   have hjl:j<b0.length:=by
    rcases Nat.lt_or_ge j b0.length with h | h
    ·exact h
    ·rw[Nat.testBit_lt_two_pow (Nat.lt_of_lt_of_le hx6 (Nat.pow_le_pow_right (by omega) h))]at hjx;cases hjx
   obtain⟨x2,hx2⟩:∃ x2,bl2[s]? = some x2:=⟨_,List.getElem?_eq_getElem (by omega)⟩
   obtain⟨y2,hy2⟩:∃ y2,bl2[j]? = some y2:=⟨_,List.getElem?_eq_getElem (by omega)⟩
   have hc1:W.cell? ⟨bg,s,none⟩=some (zaa x2):=by rw[hb.cellAt s (by omega)];simp[sets,hx2]
   have hc3:W.cell? ⟨bg,j,none⟩=some (zaa y2):=by rw[hb.cellAt j (by omega)];simp[sets,hy2]
   have h64:∀ {z:Nat},z<2 ^ b0.length→z<2 ^ 48:=fun h=>Nat.lt_of_lt_of_le h (Nat.pow_le_pow_right (by omega) (by omega))
   have hx3:=h64 (P2.inv.small s x2 hx2)
   have hy3:=h64 (P2.inv.small j y2 hy2)
   have HI:=zH hI
   have HP2:=zH P2
   have HC2:=zH hc2
   have HX2:=zH hx2
   have HY2:=zH hy2
   have HJ:=zH hj
   have hHeld:W.drew.cell? ⟨vf,0,none⟩=some (.pointer (some ⟨V.fb,0,none⟩))∧W.drew.cell? ⟨V.fb,4,none⟩=some (.slice (some ⟨bg,0,none⟩) b0.length vc)∧W.drew.cell? ⟨wr.heap.size,0,none⟩=some (.int .i64 (s:Int))∧W.drew.cell? ⟨bg,j,none⟩=some (zaa y2):=⟨hvfc 0,hf 4,hsbc 0,hc3⟩
   clear hI P2 hc2 hx2 hy2 hj hb hvfc hf hp hsbc hc3
   refine wpIn_block (wpIn_seq_k fun K1 hK1=>?_)
   refine zlm 13 (fun w'=>w'.cell? ⟨vf,0,none⟩=some (.pointer (some ⟨V.fb,0,none⟩))∧w'.cell? ⟨V.fb,4,none⟩=some (.slice (some ⟨bg,0,none⟩) b0.length vc)∧w'.cell? ⟨wr.heap.size,0,none⟩=some (.int .i64 (s:Int))∧w'.cell? ⟨bg,j,none⟩=some (zaa y2)) (by kernel_rfl) rfl rfl (by kernel_rfl) (by kernel_rfl) ?_
   simp only[List.take_succ_cons,List.take_zero]
   iterate 13(refine tk 0 rfl (by kernel_rfl) (fun _ _ _ h=>h) hHeld (fun w hSw=>by go_simp;try with_reducible rfl) (by simp only[pA,pB,pC,pD,pE,pF,pG,pH];exact rfl) ?_)
   refine lst (by kernel_rfl) rfl fun K hK=>?_
   go_simp
   refine(zhx x2 y2 ⟨bg,s,none⟩ W.drew hx3 hy3 hc1 hbf).mono ?_
   rintro e w' ⟨rfl,rfl⟩
   refine hK _ _ ?_
   refine zgo ?_
   refine hK1 _ _ ?_
   clear hK K hHeld hK1 K1
   obtain⟨cs,hbk⟩:=zba (HP2.out.inv.f.b) (k:=bg) (by rw[HV.out];rfl)
   have hG:=zH ((HP2.out.inv.grow (s:=s) (j:=j) (by rw[HV.out,hlen]) HX2.out HY2.out (.inr (HXS.out j hjx))))
   have hdb:Below W.heap.size W W.drew:=(Below.refl _ W).drew
   have hcb2:=HP2.out.cb.far (p:=⟨bg,s,none⟩) (HP2.out.cb.ne_ hbk (by decide)) (zaa (x2|||y2))
   have hsb2:=HI.out.sb.far (p:=⟨bg,s,none⟩) (HI.out.sb.ne_ hbk (by decide)) (zaa (x2|||y2))
   have hkr:zan W (W.setCell ⟨bg,s,none⟩ (zaa (x2|||y2))):=(zan.refl W).setCell (p:=⟨bg,s,none⟩) hbk _
   have hzz:W.heap.size≤(W.setCell ⟨bg,s,none⟩ (zaa (x2|||y2))).heap.size:=hkr.size
   have HM2:=zH (HI.out.m.kept hkr)
   have HKR:=zH hkr
   have HCB2:=zH hcb2
   have HSB2:=zH hsb2
   show Code.wpIn _ _ _ _ _ _ (W.setCell ⟨bg,s,none⟩ (zaa (x2|||y2))).drew
   cases hne2:((x2|||y2) != x2)
   ·have he:x2|||y2=x2:=by simpa using hne2
    have hbe:bl2.set s (x2|||y2)=bl2:=by
     rw[he]
     refine List.ext_getElem? fun m=>?_
     rcases Nat.decEq m s with h | h
     ·rw[List.getElem?_set_ne (fun e=>h e.symm)]
     ·subst h
      rw[List.getElem?_set_self (by omega),HX2.out]
    have FIN:=zH (show zan W (W.setCell ⟨bg,s,none⟩ (zaa (x2|||y2))).drew∧BlI C w0 w V on lo ma Ms Rs RS b0 bA s x wr.heap.size W1.heap.size ds (i+1) (W.setCell ⟨bg,s,none⟩ (zaa (x2|||y2))).drew from
     ⟨HKR.out.drew,⟨bl2,c2,⟨by have:=hG.out;rw[hbe]at this;exact this.below (Below.refl _ _).drew,HCB2.out.drew,HP2.out.ls,HP2.out.eq,HP2.out.z0,HP2.out.zC,HP2.out.sv⟩,fun hc=>by
      obtain⟨e1,e2⟩:=HC2.out hc
      refine⟨e1,fun j' hj' k hk=>?_⟩
      rw[List.take_add_one,HJ.out]at hj'
      rcases List.mem_append.1 hj' with hj' | hj'
      ·exact e2 j' hj' k hk
      ·have hj2:j'=j:=by simpa using hj'
       subst hj2
       have hb2:=(HP2.out.eq hc).1
       unfold za0 at hk ⊢
       rw[← hb2]at hk ⊢
       rw[HY2.out]at hk
       rw[HX2.out]
       simp only[Option.getD_some]at hk ⊢
       rw[← he,Nat.testBit_or,hk,Bool.or_true]⟩,HSB2.out.drew,HM2.out.kept ⟨Nat.le_refl _,fun _ _ h _=>h⟩,Nat.le_trans HI.out.z hzz⟩)
    clear he hbe hkr hcb2 hsb2 hdb hzz
    gi_wp2
    exact FIN.out
   ·have he:x2|||y2≠x2:=by simpa using hne2
    have hl2:=zqw HX2.out (Nat.lt_of_le_of_ne Nat.left_le_or (Ne.symm he)) (Nat.or_lt_two_pow hx3 hy3)
    have HLT:lack (bl2.set s (x2|||y2))<lack bA:=by
     cases hc:c2
     ·rw[← (HP2.out.eq hc).1];exact hl2
     ·exact Nat.lt_trans hl2 (HP2.out.ls hc)
    have hcbc:=HCB2.out.cell
    have hcbf:=HCB2.out.frozen
    have hcbl2:=HCB2.out.lt
    have FIN:=zH (show zan W ((W.setCell ⟨bg,s,none⟩ (zaa (x2|||y2))).drew.setCell ⟨w.heap.size,0,none⟩ (.bool true))∧BlI C w0 w V on lo ma Ms Rs RS b0 bA s x wr.heap.size W1.heap.size ds (i+1) ((W.setCell ⟨bg,s,none⟩ (zaa (x2|||y2))).drew.setCell ⟨w.heap.size,0,none⟩ (.bool true))from
     ⟨HKR.out.drew.setCell (p:=⟨w.heap.size,0,none⟩) HCB2.out.drew _,⟨bl2.set s (x2|||y2),true,⟨(hG.out.below (Below.refl _ _).drew).setNew HCB2.out.drew HP2.out.z0 HP2.out.zC (by decide) (by decide) (by decide) (fun e=>Nat.lt_irrefl _ (HP2.out.sv _ e)) _,(HCB2.out.drew.set_ 0 _).cast rfl,(fun _=>HLT),(fun h=>by cases h),HP2.out.z0,HP2.out.zC,HP2.out.sv⟩,(fun h=>by cases h)⟩,HSB2.out.drew.far (p:=⟨w.heap.size,0,none⟩) (HSB2.out.ne_ HCB2.out (by decide)) _,
      HM2.out.kept ((zan.refl _).drew.setCell (p:=⟨w.heap.size,0,none⟩) HCB2.out.drew _),Nat.le_trans HI.out.z (Nat.le_trans hzz (by simp))⟩)
    clear he hl2 hkr hcb2 hsb2 hdb
    gi_wp2
    exact FIN.out
 ·have hs2:s=b0.length:=by omega
  have hcbc:=HP.out.cb.cell
  have FIN:=zH (show ∃ bl2 c2,c2=c∧zda C w0 V on lo ma Ms Rs RS b0 bl2 wr∧(c2=true→lack bl2<lack bA)∧(c2=false→bl2=bA∧∀ s,s<b0.length→zj6 bA s)from
   ⟨bl,c,rfl,HP.out.inv,HP.out.ls,fun h=>⟨(HP.out.eq h).1,fun i hi=>(HP.out.eq h).2 i (by omega)⟩⟩)
  have hzC:=HP.out.zC
  have hz0:=HP.out.z0
  subst hs2
  clear hP hvfc hf hp
  go_wp2_with fail
  refine zia (B:=w.heap.size) (fun W=>∃ bl2 c2,c2=c∧zda C w0 V on lo ma Ms Rs RS b0 bl2 W∧(c2=true→lack bl2<lack bA)∧(c2=false→bl2=bA∧∀ s,s<b0.length→zj6 bA s)) (fun W W' hr h=>?_) (fun W h=>?_) _ wr HM.out FIN.out
  ·obtain⟨bl2,c2,h1,h2,h3,h4⟩:=h
   exact⟨bl2,c2,h1,h2.recs hr hzC hz0,h3,h4⟩
  ·obtain⟨bl2,c2,rfl,h2,h3,h4⟩:=h
   exact⟨.bool c2,(results_tmp rfl _ _ _).trans rfl,bl2,c2,rfl,h2,h3,fun h=>⟨(h4 h).1,(h4 h).2⟩⟩
theorem ztd (args:Array Value)(w:World):(callFunc 276 args).run Tryz.prog w=.ok (.enter 276 args) w:=enters_of Tryz.func276 (by kernel_rfl) rfl args w
theorem bitOf_lt {bl:List Nat}{s j:Nat}(h:za0 bl s j=true):s<bl.length:=by
 rcases Nat.lt_or_ge s bl.length with h1 | h1
 ·exact h1
 ·unfold za0 at h
  rw[List.getElem?_eq_none h1]at h
  simp at h
theorem ztt {C:AX}{w:World}{V:FV}{on lo ma:Nat→Bool}{Ms:List Bool}{Rs:List Nat}{RS:Nat→Nat→Bool}{b0:List Nat}(h:FlM C w V on lo ma Ms Rs RS b0)(hn:b0.length≤5)(hsm:∀ (s x:Nat),b0[s]? = some x→x<2 ^ b0.length)(vf rb:Nat)
  (hvf:Blk w vf 296 #[.pointer (some ⟨V.fb,0,none⟩)]) (hr:Blk w rb 37 #[.func (.func 276) #[] #[.pointer (some ⟨vf,0,none⟩)]]) :
  Calls Tryz.prog 221 #[.slice (some ⟨rb,0,none⟩) 1 1] w fun e w'=>e=.returned (.tuple #[])∧∃ bl,FlM C w' V on lo ma Ms Rs RS bl∧bl.length=b0.length∧(∀ (s x:Nat),bl[s]? = some x→x<2 ^ b0.length)∧(∀ s j,za0 bl s j=true↔BelP b0 s j)∧w.grownBy w' V.bv.ownBlock:=by
 have hne:∀ {g:Nat} {t:TypeId} {cs:Array Value},Blk w g t cs→381≠t→V.bv.ownBlock≠some g:=fun hb ht e=>by
  obtain⟨cs',h'⟩:=zba h.b e
  exact ht (Blk.inj h' hb).1
 refine(zkb (zda C w V on lo ma Ms Rs RS b0) lack [⟨276,#[],#[.pointer (some ⟨vf,0,none⟩)]⟩] [fun bl=>∀ s,s<b0.length→zj6 bl s] rb 1 w b0 rfl (by simp)
  ⟨h,rfl,hsm,fun s j hs S h1 _=>h1 s j hs,fun _ _ h=>h,World.grownBy.refl _ _,hn⟩ ?_ ?_).mono ?_
 ·intro s W hI j r hj
  have hb:=hr.grown hI.k (fun e=>hne hr (by decide) e.symm)
  cases j with
  | zero=>simp at hj;subst hj;exact hb.cell 0
  | succ j=>simp at hj
 ·intro j r c hj hc
  cases j with
  | zero =>
   simp at hj hc
   subst hj hc
   exact⟨ztd,fun s W hI=>zs5 C w W V on lo ma Ms Rs RS b0 s vf hI hvf (hne hvf (by decide))⟩
  | succ j=>simp at hj
 ·rintro e w' ⟨bl,rfl,hI,hcl⟩
  refine⟨rfl,bl,hI.f,hI.len,hI.small,fun s j=>⟨hI.s s j,fun hb=>hb (za0 bl) hI.g fun s j k h1 h2=>?_⟩,hI.k⟩
  have:=hcl _ (List.mem_singleton.2 rfl) s (by rw[← hI.len];exact bitOf_lt h1)
  exact this j h1 k h2
end
section
open Go.RowKit Go.Maps Go.Shelf
set_option linter.unusedSimpArgs false
open Classical in
noncomputable def onB (P:Pr)(k:Nat):Bool:=decide (∃ f,P.fs[P.main]? = some f∧zbr (zdk P) [f.from_] k)
open Classical in
noncomputable def loB (P:Pr)(k:Nat):Bool:=decide (k<P.code.length∧zbr (zap P) (zap P k) k)
open Classical in
noncomputable def maB (P:Pr)(g:Nat):Bool:=decide (zgr P (onB P) (loB P) g)
def RootP (P:Pr)(on:Nat→Bool):Nat→Nat→Prop
 | 0,g=>zbr (zcy P on) [P.main] g
 | s+1,g=>∃ k i,P.gos[s]? = some k∧P.code[k]? = some i∧on k=true∧zbr (zcy P on) [i.call] g
open Classical in
noncomputable def rsB (P:Pr)(r g:Nat):Bool:=decide (RootP P (onB P) r g)
noncomputable def zif (P:Pr)(r j:Nat):Bool:=match P.gos[j]? with | some k=>onB P k&&(match P.code[k]? with | some i=>rsB P r i.fn | none=>false) | none=>false
noncomputable def zby (P:Pr)(r:Nat):Nat→Nat
 | 0=>0
 | j+1=>if zif P r j then zby P r j|||2 ^ j else zby P r j
noncomputable def zdb (P:Pr):List Nat:=(List.range P.gos.length).map fun s=>zby P (s+1) P.gos.length
noncomputable def zau (P:Pr):List Bool:=P.gos.map fun k=>loB P k||(match P.code[k]? with | some i=>maB P i.fn | none=>false)
theorem zlt (P:Pr)(r:Nat):∀ j,zby P r j<2 ^ j
 | 0=>by simp[zby]
 | j+1=>by
  have h:=zlt P r j
  have h1:zby P r j<2 ^ (j+1):=Nat.lt_trans h (Nat.pow_lt_pow_right (by omega) (by omega))
  unfold zby
  split
  ·exact Nat.or_lt_two_pow h1 (Nat.pow_lt_pow_right (by omega) (by omega))
  ·exact h1
structure zec (C:AX)(w:World)(V:FV)(Rs Bs:List Nat):Prop where
 f:FlM C w V (onB C.P) (loB C.P) (maB C.P) (zau C.P) Rs (rsB C.P) Bs
 rl:Rs.length=C.P.gos.length+1
 bl:Bs.length=C.P.gos.length
 small:∀ (s x:Nat),Bs[s]? = some x→x<2 ^ C.P.gos.length
 bel:∀ s j,za0 Bs s j=true↔BelP (zdb C.P) s j
section
variable {C:AX} {w w':World} {V:FV} {on lo ma:Nat→Bool} {Ms:List Bool} {Rs:List Nat} {RS:Nat→Nat→Bool} {Bs:List Nat}
theorem zmq (h:FlH C w V on lo ma):∃ ga gc,C.X.gv=.slice ga C.P.gos.length gc∧(∀ (s k:Nat),C.P.gos[s]? = some k→∃ gb,ga=some ⟨gb,0,none⟩∧∀ W,C.on W→W.cell? ⟨gb,s,none⟩=some (.int .i64 (k:Int))):=by
 have hr:=h.c.prog.gr
 obtain⟨ga,gc,hv⟩:=zbx hr
 refine⟨ga,gc,hv,fun s k hs=>?_⟩
 have hlt:s<C.P.gos.length:=(List.getElem?_eq_some_iff.1 hs).1
 rw[hv]at hr
 obtain⟨gb,gc',hva,_,hgl⟩:=hr.form (by omega)
 injection hva with h1 h2 h3
 subst h1
 refine⟨gb,rfl,fun W hW=>?_⟩
 rw[hW.cell (p:=⟨gb,s,none⟩) hgl,hr.cellAt s (by omega)]
 simp[zb5,hs]
theorem zlq (wf:WfPr C.P){s k:Nat}(hs:C.P.gos[s]? = some k):∃ i,C.P.code[k]? = some i∧i.op=7∧k<C.P.code.length∧i.call<C.P.fs.length∧i.fn<C.P.fs.length:=by
 obtain⟨i,hi,h7,_⟩:=wf.gos s k hs
 obtain⟨f,hf,_⟩:=wf.call k i hi (.inr h7)
 exact⟨i,hi,h7,(List.getElem?_eq_some_iff.1 hi).1,(List.getElem?_eq_some_iff.1 hf).1,wf.fn k i hi⟩
theorem MkE.cast {S S':Nat→Bool}{b:Nat}(h:MkE w b S)(e:∀ k,S k=true↔S' k=true):MkE w b S':=by
 have:S=S':=funext fun k=>Bool.eq_iff_iff.2 (e k)
 exact this ▸ h
theorem zik.mk {next:Nat→List Nat}{start:List Nat}{e:Ending}(h:zik w next start e w'):∃ mb S,e=.returned (.map (some mb))∧w.heap.size≤mb∧MkE w' mb S∧(∀ k,S k=true↔zbr next start k)∧Below w.heap.size w w':=by
 obtain⟨mb,S,m,h1,h2,h3,h4,h5⟩:=h
 exact⟨mb,S,h1,h2,⟨m,h3⟩,h4,h5⟩
theorem zk5 (P:Pr)(r g:Nat):rsB P r g=true↔RootP P (onB P) r g:=by unfold rsB;simp
end
def RtS (C:AX)(V:FV)(vf:Nat)(w':World):Prop :=
 w'.cell? ⟨vf,0,none⟩=some (.pointer (some ⟨V.fb,0,none⟩))∧(∀ i,w'.cell? ⟨V.fb,i,none⟩=#[.pointer (some ⟨C.pb,0,none⟩),.map (some V.onb),V.sv,V.rv,V.bv,.map (some V.lob),.map (some V.mab)][i]?) ∧
 (∀ i,w'.cell? ⟨C.pb,i,none⟩=#[.pointer (some ⟨C.X.tb,0,none⟩),.int .i64 C.P.nv,.int .i64 C.P.nm,.slice (some ⟨C.fg,0,none⟩) C.P.fs.length C.fcap,.slice (some ⟨C.cg,0,none⟩) C.P.code.length C.ccap,C.X.av,C.X.nv,C.X.gv,.int .i64 C.P.main][i]?)
end
end Go.Proofs.YtkmcihhndgdhpaaGreat
