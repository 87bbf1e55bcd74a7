/- FlowL: parts of the walk. -/
import Derived.Test.YtkmcihhndgdhpaaGreatWC0
set_option maxRecDepth 100000
set_option maxHeartbeats 4000000
set_option linter.unusedSimpArgs false
set_option linter.unusedVariables false
namespace Go.Proofs.YtkmcihhndgdhpaaGreat
section
open Go.RowKit Go.Maps Go.Shelf
set_option linter.unusedSimpArgs false
theorem onB_iff (P:Pr)(k:Nat):onB P k=true↔∃ f,P.fs[P.main]? = some f∧zbr (zdk P) [f.from_] k:=by unfold onB;simp
theorem zrd (P:Pr)(k:Nat):loB P k=true↔k<P.code.length∧zbr (zap P) (zap P k) k:=by unfold loB;simp
theorem maB_iff (P:Pr)(g:Nat):maB P g=true↔zgr P (onB P) (loB P) g:=by unfold maB;simp
noncomputable def loTo (P:Pr)(n k:Nat):Bool:=decide (k<n)&&loB P k
theorem loTo_end (P:Pr):loTo P P.code.length=loB P:=by
 funext k
 unfold loTo
 cases h:loB P k
 ·rw[Bool.and_false]
 ·rw[decide_eq_true ((zrd P k).1 h).1];rfl
theorem zxy {P:Pr}{n:Nat}(h:loB P n=false):loTo P (n+1)=loTo P n:=by
 funext k
 unfold loTo
 by_cases e:k=n
 ·subst e;rw[h,Bool.and_false,Bool.and_false]
 ·rw[show decide (k<n+1)=decide (k<n) by rw[decide_eq_decide];omega]
theorem zur {P:Pr}{n:Nat}(h:loB P n=true):(fun j=>decide (j=n)||loTo P n j)=loTo P (n+1):=by
 funext k
 unfold loTo
 by_cases e:k=n
 ·subst e;rw[h];simp
 ·rw[show decide (k<n+1)=decide (k<n) by rw[decide_eq_decide];omega];simp[e]
theorem zug (P:Pr):loTo P 0=fun _=>false:=by funext k;simp[loTo]
structure OfP (C:AX)(w:World)(vp vf:Nat)(V:FV)(on lo ma:Nat→Bool)(Ms:List Bool)(W:World):Prop where
 f:FlM C W V on lo ma Ms [] (rsB C.P) []
 vp:Blk W vp 158 #[.pointer (some ⟨C.pb,0,none⟩)]
 vf:Blk W vf 296 #[.pointer (some ⟨V.fb,0,none⟩)]
 fb:w.heap.size≤V.fb∧w.heap.size≤V.lob∧w.heap.size≤V.mab
 sw:∀ k,V.sv.ownBlock=some k→w.heap.size≤k
 n:V.rv=.slice none 0 0∧V.bv=.slice none 0 0
 c:Below w.heap.size w W
section
variable {C:AX} {w W W':World} {vp vf:Nat} {V:FV} {on lo ma:Nat→Bool} {Ms:List Bool}
theorem OfP.below (h:OfP C w vp vf V on lo ma Ms W){N:Nat}(hb:Below N W W')(hN:W.heap.size≤N):OfP C w vp vf V on lo ma Ms W' :=
 ⟨h.f.below hb hN,h.vp.below hb (Nat.lt_of_lt_of_le h.vp.lt hN),h.vf.below hb (Nat.lt_of_lt_of_le h.vf.lt hN),h.fb,h.sw,h.n,h.c.trans (hb.mono (Nat.le_trans h.c.size hN))⟩
theorem OfP.many {x:Bool}{g cap:Nat}(h:OfP C w vp vf V on lo ma Ms W)(hrow:W'.ownsRow C.w0.heap.size 4 1 (.slice (some ⟨g,0,none⟩) (Ms.length+1) cap) (Ms.length+1) (zh9 Ms++[.bool x]))(hg:W.grownBy W' V.sv.ownBlock)(hat:V.sv.ownBlock=some g∨g=W.heap.size) :
  OfP C w vp vf { V with sv:=.slice (some ⟨g,0,none⟩) (Ms.length+1) cap } on lo ma (Ms++[x]) (W'.setCell ⟨V.fb,2,none⟩ (.slice (some ⟨g,0,none⟩) (Ms.length+1) cap)):=by
 refine⟨h.f.many hrow hg,?_,?_,h.fb,fun k e=>?_,h.n,(h.c.grown hg h.c.size h.sw).setCell h.fb.1 _⟩
 ·exact(h.vp.append h.f.s hg (by decide)).far (p:=⟨V.fb,2,none⟩) (h.vp.ne_ h.f.h.f (by decide)) _
 ·exact(h.vf.append h.f.s hg (by decide)).far (p:=⟨V.fb,2,none⟩) (h.vf.ne_ h.f.h.f (by decide)) _
 ·injection e with e
  subst e
  rcases hat with hat | hat
  ·exact h.sw _ hat
  ·rw[hat];exact h.c.size
theorem OfP.mark {k:Nat}(h:OfP C w vp vf V on lo ma Ms W)(hm:MkE W' V.lob (fun j=>decide (j=k)||lo j))(hg:W.grownBy W' (some V.lob)):OfP C w vp vf V on (fun j=>decide (j=k)||lo j) ma Ms W' :=
 ⟨h.f.markLo hm hg,h.vp.grown hg (fun e=>h.f.h.lo.cellFar h.vp (by injection e with e;exact e.symm)),h.vf.grown hg (fun e=>h.f.h.lo.cellFar h.vf (by injection e with e;exact e.symm)),h.fb,h.sw,h.n,h.c.grown hg h.c.size (fun k e=>by cases e;exact h.fb.2.1)⟩
theorem OfP.loop (h:OfP C w vp vf V on lo (fun _=>false) [] W)(hs:V.sv=.slice none 0 0){ma':Nat→Bool}(hf:FlH C W' V on lo ma')(hg:W.grownBy W' (some V.mab)):OfP C w vp vf V on lo ma' [] W':=by
 have hc:∀ {g t cs},Blk W g t cs→Blk W' g t cs:=fun hb=>hb.grown hg (fun e=>h.f.h.ma.cellFar hb (by injection e with e;exact e.symm))
 refine⟨⟨hf,h.f.lB,h.f.lon,by rw[hs];exact World.ownsRow_nil _ _ _ _,by rw[h.n.1];exact World.ownsRow_nil _ _ _ _,by rw[h.n.2];exact World.ownsRow_nil _ _ _ _,by simp⟩,hc h.vp,hc h.vf,h.fb,h.sw,h.n,h.c.grown hg h.c.size (fun k e=>by cases e;exact h.fb.2.2)⟩
end
theorem OfP.held {C:AX}{w W W':World}{vp vf:Nat}{V:FV}{on lo ma:Nat→Bool}{Ms:List Bool}{k:Nat}{i:In}(h:OfP C w vp vf V on lo ma Ms W)(hg:W.grownBy W' V.sv.ownBlock)(hi:C.P.code[k]? = some i) :
  W'.cell? ⟨vf,0,none⟩=some (.pointer (some ⟨V.fb,0,none⟩))∧W'.cell? ⟨vp,0,none⟩=some (.pointer (some ⟨C.pb,0,none⟩))∧W'.cell? ⟨C.cg,k*14+2,none⟩=some (.int .i64 i.fn)∧(∀ i,W'.cell? ⟨V.fb,i,none⟩=#[.pointer (some ⟨C.pb,0,none⟩),.map (some V.onb),V.sv,V.rv,V.bv,.map (some V.lob),.map (some V.mab)][i]?)∧(∀ i,W'.cell? ⟨C.pb,i,none⟩=#[.pointer (some ⟨C.X.tb,0,none⟩),.int .i64 C.P.nv,.int .i64 C.P.nm,.slice (some ⟨C.fg,0,none⟩) C.P.fs.length C.fcap,.slice (some ⟨C.cg,0,none⟩) C.P.code.length C.ccap,C.X.av,C.X.nv,C.X.gv,.int .i64 C.P.main][i]?):=by
 obtain⟨a,_⟩:=h.f.grown h.f.s hg (by decide)
 obtain⟨h1,h2⟩:=a.cells
 obtain⟨_,_,hic,_,_⟩:=h.f.h.c.icells a.onw hi
 exact⟨(h.vf.append h.f.s hg (by decide)).cell 0,(h.vp.append h.f.s hg (by decide)).cell 0,hic 2 (by omega),h1,h2⟩
theorem manyL_at {P:Pr}{j k:Nat}{i:In}(hk:P.gos[j]? = some k)(hi:P.code[k]? = some i):(zau P)[j]? = some (loB P k||maB P i.fn):=by
 unfold zau
 rw[List.getElem?_map,hk]
 simp only[Option.map_some,hi]
def LoRel (C:AX)(w:World)(vp vf:Nat)(V:FV)(gk:Nat)(kv:Value)(W:World):Prop :=
 ∃ k:Nat,kv=.int .i64 k∧gk=C.P.code.length-k∧k≤C.P.code.length∧OfP C w vp vf V (onB C.P) (loTo C.P k) (fun _=>false) [] W
def MnRel (C:AX)(w:World)(vp vf:Nat)(V:FV)(gk:Nat)(kv:Value)(W:World):Prop :=
 ∃ (j:Nat) (sv:Value),kv=.int .i64 j∧gk=C.P.gos.length-j∧j≤C.P.gos.length∧OfP C w vp vf { V with sv:=sv } (onB C.P) (loB C.P) (maB C.P) ((zau C.P).take j) W
theorem zwd (C:AX)(HC:AXok C)(w:World)(hon:C.on w) :
  Calls Tryz.prog 151 #[.pointer (some ⟨C.pb,0,none⟩)] w fun e W=>∃ V Rs Bs,e=.returned (.pointer (some ⟨V.fb,0,none⟩))∧zec C W V Rs Bs∧Below w.heap.size w W∧w.heap.size≤V.fb:=by
 have hmf:∀ (fn:Fn) (first cap:Array Value) (w:World),(Instr.makeFunc fn first cap).run Tryz.prog w=.ok (.func fn first cap) w:=fun _ _ _ _=>rfl
 have hmm:=@run_makeMap Tryz.prog
 have hmain:=HC.wf.main
 have hfl:=HC.wf.fl
 have hcl:=HC.wf.cl
 go_enter Tryz.func151,Tryz.ntmps151
 go_wp2_with fail
 have hb0:Below w.heap.size w (((((w.alloc (.cells #[.pointer (some ⟨C.pb,0,none⟩)] 158)).alloc (.map #[] 0)).alloc (.map #[] 0)).alloc (.cells #[.pointer (some ⟨C.pb,0,none⟩),.map none,.slice none 0 0,.slice none 0 0,.slice none 0 0,.map (some (w.heap.size+1)),.map (some (w.heap.size+1+1))] 314)).alloc (.cells #[.pointer (some ⟨w.heap.size+1+1+1,0,none⟩)] 296)) :=
  (((((Below.refl _ _).alloc (Nat.le_refl _) _).alloc (by simp) _).alloc (by simp;omega) _).alloc (by simp;omega) _).alloc (by simp;omega) _
 have hvp0:Blk (((((w.alloc (.cells #[.pointer (some ⟨C.pb,0,none⟩)] 158)).alloc (.map #[] 0)).alloc (.map #[] 0)).alloc (.cells #[.pointer (some ⟨C.pb,0,none⟩),.map none,.slice none 0 0,.slice none 0 0,.slice none 0 0,.map (some (w.heap.size+1)),.map (some (w.heap.size+1+1))] 314)).alloc (.cells #[.pointer (some ⟨w.heap.size+1+1+1,0,none⟩)] 296)) w.heap.size 158 #[.pointer (some ⟨C.pb,0,none⟩)]:=((((Blk.newAt rfl).alloc _).alloc _).alloc _).alloc _
 have hlo0:MkE (((((w.alloc (.cells #[.pointer (some ⟨C.pb,0,none⟩)] 158)).alloc (.map #[] 0)).alloc (.map #[] 0)).alloc (.cells #[.pointer (some ⟨C.pb,0,none⟩),.map none,.slice none 0 0,.slice none 0 0,.slice none 0 0,.map (some (w.heap.size+1)),.map (some (w.heap.size+1+1))] 314)).alloc (.cells #[.pointer (some ⟨w.heap.size+1+1+1,0,none⟩)] 296)) (w.heap.size+1) (fun _=>false):=MkE.alloc (MkE.alloc (MkE.alloc ⟨_,by have:=zll (w.alloc (.cells #[.pointer (some ⟨C.pb,0,none⟩)] 158));rwa [World.size_alloc]at this⟩ _) _) _
 have hma0:MkE (((((w.alloc (.cells #[.pointer (some ⟨C.pb,0,none⟩)] 158)).alloc (.map #[] 0)).alloc (.map #[] 0)).alloc (.cells #[.pointer (some ⟨C.pb,0,none⟩),.map none,.slice none 0 0,.slice none 0 0,.slice none 0 0,.map (some (w.heap.size+1)),.map (some (w.heap.size+1+1))] 314)).alloc (.cells #[.pointer (some ⟨w.heap.size+1+1+1,0,none⟩)] 296)) (w.heap.size+1+1) (fun _=>false):=MkE.alloc (MkE.alloc ⟨_,by have:=zll ((w.alloc (.cells #[.pointer (some ⟨C.pb,0,none⟩)] 158)).alloc (.map #[] 0));rwa [World.size_alloc,World.size_alloc]at this⟩ _) _
 have hfb0:Blk (((((w.alloc (.cells #[.pointer (some ⟨C.pb,0,none⟩)] 158)).alloc (.map #[] 0)).alloc (.map #[] 0)).alloc (.cells #[.pointer (some ⟨C.pb,0,none⟩),.map none,.slice none 0 0,.slice none 0 0,.slice none 0 0,.map (some (w.heap.size+1)),.map (some (w.heap.size+1+1))] 314)).alloc (.cells #[.pointer (some ⟨w.heap.size+1+1+1,0,none⟩)] 296)) (w.heap.size+1+1+1) 314 #[.pointer (some ⟨C.pb,0,none⟩),.map none,.slice none 0 0,.slice none 0 0,.slice none 0 0,.map (some (w.heap.size+1)),.map (some (w.heap.size+1+1))]:=(Blk.newAt (by simp)).alloc _
 have hvf0:Blk (((((w.alloc (.cells #[.pointer (some ⟨C.pb,0,none⟩)] 158)).alloc (.map #[] 0)).alloc (.map #[] 0)).alloc (.cells #[.pointer (some ⟨C.pb,0,none⟩),.map none,.slice none 0 0,.slice none 0 0,.slice none 0 0,.map (some (w.heap.size+1)),.map (some (w.heap.size+1+1))] 314)).alloc (.cells #[.pointer (some ⟨w.heap.size+1+1+1,0,none⟩)] 296)) (w.heap.size+1+1+1+1) 296 #[.pointer (some ⟨w.heap.size+1+1+1,0,none⟩)]:=Blk.newAt (by simp)
 generalize hW0:(((((w.alloc (.cells #[.pointer (some ⟨C.pb,0,none⟩)] 158)).alloc (.map #[] 0)).alloc (.map #[] 0)).alloc (.cells #[.pointer (some ⟨C.pb,0,none⟩),.map none,.slice none 0 0,.slice none 0 0,.slice none 0 0,.map (some (w.heap.size+1)),.map (some (w.heap.size+1+1))] 314)).alloc (.cells #[.pointer (some ⟨w.heap.size+1+1+1,0,none⟩)] 296))=w1 at hb0 hvp0 hlo0 hma0 hfb0 hvf0 ⊢
 obtain⟨vp,hvpe⟩:∃ x,x=w.heap.size:=⟨_,rfl⟩
 obtain⟨lob,hlobe⟩:∃ x,x=w.heap.size+1:=⟨_,rfl⟩
 obtain⟨mab,hmabe⟩:∃ x,x=w.heap.size+1+1:=⟨_,rfl⟩
 obtain⟨fb,hfbe⟩:∃ x,x=w.heap.size+1+1+1:=⟨_,rfl⟩
 obtain⟨vf,hvfe⟩:∃ x,x=w.heap.size+1+1+1+1:=⟨_,rfl⟩
 rw[← hvpe]at hvp0
 rw[← hvfe,← hfbe]at hvf0
 rw[← hfbe,← hmabe,← hlobe]at hfb0
 rw[← hmabe]at hma0
 rw[← hlobe]at hlo0
 rw[← hvfe,← hfbe,← hmabe,← hlobe,← hvpe]
 have HE:=zH (show w.heap.size≤fb∧w.heap.size≤lob∧w.heap.size≤mab∧lob≠mab∧fb≠vf by omega)
 have hon1:C.on w1:=hon.trans (hb0.mono hon.size)
 clear hvpe hlobe hmabe hfbe hvfe hW0 hmm
 obtain⟨f,hf⟩:∃ f,C.P.fs[C.P.main]? = some f:=⟨_,List.getElem?_eq_getElem hmain⟩
 have HF:=zH hf
 have HS:=zH (show ∀ W',Below w1.heap.size w1 W'→(W'.cell? ⟨vf,0,none⟩=some (.pointer (some ⟨fb,0,none⟩))∧W'.cell? ⟨vp,0,none⟩=some (.pointer (some ⟨C.pb,0,none⟩))∧W'.cell? ⟨C.fg,C.P.main*5+3,none⟩=some (.int .i64 f.from_)∧(∀ i,W'.cell? ⟨C.pb,i,none⟩=#[.pointer (some ⟨C.X.tb,0,none⟩),.int .i64 C.P.nv,.int .i64 C.P.nm,.slice (some ⟨C.fg,0,none⟩) C.P.fs.length C.fcap,.slice (some ⟨C.cg,0,none⟩) C.P.code.length C.ccap,C.X.av,C.X.nv,C.X.gv,.int .i64 C.P.main][i]?))from fun W' hb =>
  ⟨(hvf0.below hb hvf0.lt).cell 0,(hvp0.below hb hvp0.lt).cell 0,HC.fcell (hon1.trans (hb.mono hon1.size)) hf 3 (by omega),HC.pcells (hon1.trans (hb.mono hon1.size))⟩)
 refine zah 17 (fun W'=>W'.cell? ⟨vf,0,none⟩=some (.pointer (some ⟨fb,0,none⟩))∧W'.cell? ⟨vp,0,none⟩=some (.pointer (some ⟨C.pb,0,none⟩))∧W'.cell? ⟨C.fg,C.P.main*5+3,none⟩=some (.int .i64 f.from_)∧(∀ i,W'.cell? ⟨C.pb,i,none⟩=#[.pointer (some ⟨C.X.tb,0,none⟩),.int .i64 C.P.nv,.int .i64 C.P.nm,.slice (some ⟨C.fg,0,none⟩) C.P.fs.length C.fcap,.slice (some ⟨C.cg,0,none⟩) C.P.code.length C.ccap,C.X.av,C.X.nv,C.X.gv,.int .i64 C.P.main][i]?)) (by kernel_rfl) rfl rfl (by kernel_rfl) ?_
 simp only[List.take_succ_cons,List.take_zero]
 have hHeld:=HS.out _ (Below.refl _ w1).drew
 iterate 13(refine tk 0 rfl (by kernel_rfl) (fun _ _ _ h=>h) hHeld (fun w hSw=>by go_simp;try with_reducible rfl) (by simp only[pA,pB,pC,pD,pE,pF,pG,pH];exact rfl) ?_)
 refine rdy 13 (by kernel_rfl) rfl fun K hK=>?_
 go_simp
 have hba:=zH (((Below.refl _ w1).drew).alloc (Nat.le_refl _) (.cells #[.int .i64 (f.from_:Int)] 3))
 have hrb:Blk (w1.drew.alloc (.cells #[.int .i64 (f.from_:Int)] 3)) w1.heap.size 3 #[.int .i64 (f.from_:Int)]:=Blk.newAt rfl
 refine hK.out _ _ (HS.out _ hba.out) (fun hHeld=>?_)
 clear hK K
 refine rdy 14 (by kernel_rfl) rfl fun K hK=>?_
 go_simp
 refine(from_on HC _ fb vf vp w1.heap.size C.P.main f HF.out (hon1.trans (hba.out.mono hon1.size)) ((hfb0.below hba.out hfb0.lt).cell 0) ((hvf0.below hba.out hvf0.lt).cell 0) ((hvp0.below hba.out hvp0.lt).cell 0) ⟨Nat.lt_of_lt_of_le hfb0.lt hba.out.size,Nat.lt_of_lt_of_le hvf0.lt hba.out.size,Nat.lt_of_lt_of_le hvp0.lt hba.out.size⟩ hrb).mono ?_
 rintro e w3 hpost
 obtain⟨onb,S,rfl,hob,hoS,hSi,hb3⟩:=hpost.mk
 have hb13:Below w1.heap.size w1 w3:=hba.out.trans (hb3.mono (by simp))
 refine hK.out _ _ (HS.out _ hb13) (fun hHeld=>?_)
 clear hK K
 iterate 2(refine tk 15 rfl (by kernel_rfl) (fun _ _ _ h=>h) hHeld (fun w hSw=>by go_simp;try with_reducible rfl) (by simp only[pA,pB,pC,pD,pE,pF,pG,pH];exact rfl) ?_)
 have hfb3:=hfb0.below hb13 hfb0.lt
 have hfbc:=hfb3.cell
 have hfbf:=hfb3.frozen
 have hfbl:=hfb3.lt
 refine lst (by kernel_rfl) rfl fun K hK=>?_
 go_simp
 refine hK _ _ ?_
 clear hK K hHeld hfbc hfbf hfbl HS
 have hon3:C.on w3:=hon1.trans (hb13.mono hon1.size)
 have hvf3:=hvf0.below hb13 hvf0.lt
 have hvp3:=hvp0.below hb13 hvp0.lt
 have hlo3:=hlo0.below hb13 hlo0.lt
 have hma3:=hma0.below hb13 hma0.lt
 have ho3:MkE w3 onb (onB C.P):=hoS.cast fun k=>by
  rw[hSi,onB_iff]
  refine⟨fun h=>⟨f,HF.out,h⟩,?_⟩
  rintro⟨f',h1,h2⟩
  rw[HF.out]at h1
  injection h1 with h1
  subst h1
  exact h2
 have hwf:w.heap.size≤w1.heap.size:=hb0.size
 have hob':w1.heap.size≤onb:=Nat.le_trans (by simp) hob
 have HOF:=zH (show OfP C w vp vf ⟨fb,onb,lob,mab,.slice none 0 0,.slice none 0 0,.slice none 0 0⟩ (onB C.P) (loTo C.P 0) (fun _=>false) [] (w3.setCell ⟨fb,1,none⟩ (.map (some onb)))from by
  have hH:FlH C (w3.setCell ⟨fb,1,none⟩ (.map (some onb))) ⟨fb,onb,lob,mab,.slice none 0 0,.slice none 0 0,.slice none 0 0⟩ (onB C.P) (loTo C.P 0) (fun _=>false) :=
   ⟨HC,hon3.setCell (p:=⟨fb,1,none⟩) (Nat.le_trans hon.size HE.out.1) _,Nat.le_trans hon.size HE.out.1,(hfb3.set_ 1 _).cast rfl,ho3.farB hfb3 _ _,by rw[zug];exact hlo3.farB hfb3 _ _,hma3.farB hfb3 _ _,Nat.le_trans hon.size HE.out.2.2.1,
    fun e=>by have:=hma0.lt;simp only at e;omega,fun e=>HE.out.2.2.2.1 e.symm⟩
  exact⟨⟨hH,Nat.le_trans hon.size HE.out.2.1,fun e=>by have:=hlo0.lt;simp only at e;omega,World.ownsRow_nil _ _ _ _,World.ownsRow_nil _ _ _ _,World.ownsRow_nil _ _ _ _,by simp⟩,
   hvp3.far (p:=⟨fb,1,none⟩) (hvp3.ne_ hfb3 (by decide)) _,hvf3.far (p:=⟨fb,1,none⟩) (hvf3.ne_ hfb3 (by decide)) _,⟨HE.out.1,HE.out.2.1,HE.out.2.2.1⟩,fun k e=>(by cases e),⟨rfl,rfl⟩,(hb0.trans (hb13.mono hwf)).setCell (p:=⟨fb,1,none⟩) HE.out.1 _⟩)
 generalize hW4:w3.setCell ⟨fb,1,none⟩ (.map (some onb))=w4 at HOF ⊢
 clear hW4 hfb3 hvf3 hvp3 hlo3 hma3 ho3 hoS hSi hb3 hob hba hrb hon3 hb13 hvp0 hlo0 hma0 hfb0 hvf0 hb0 hob' hwf hpost hf hon1
 have ST:=zH (show LoRel C w vp vf ⟨fb,onb,lob,mab,.slice none 0 0,.slice none 0 0,.slice none 0 0⟩ C.P.code.length (.int .i64 (0:Int)) w4 from⟨0,rfl,rfl,Nat.zero_le _,HOF.out⟩)
 have hvpc:=HOF.out.vp.cell
 have hp:=(HOF.out.f.h.cells).2
 have hpl0:C.pb<w4.heap.size:=Nat.lt_of_lt_of_le HC.prog.p.lt HOF.out.f.h.onw.size
 clear HOF
 go_wp2_with fail
 clear hvpc hp hpl0
 go_loopg [34] C.P.code.length (fun gk v34 wr=>LoRel C w vp vf ⟨fb,onb,lob,mab,.slice none 0 0,.slice none 0 0,.slice none 0 0⟩ gk v34 wr)
 case atStart=>exact ST.out
 case round =>
  obtain⟨k,rfl,hg,hk,hP⟩:=hrel
  have HG:=zH hg
  have HP:=zH hP
  have hvpc:=hP.vp.cell
  have hvfc:=hP.vf.cell
  have hvpl:=hP.vp.lt
  have hvfl:=hP.vf.lt
  have hfbl:=hP.f.h.f.lt
  obtain⟨hfc,hp⟩:=hP.f.h.cells
  dsimp only at hfc hvfc hfbl
  clear hg hP
  by_cases hlt:k<C.P.code.length
  ·obtain⟨i,hi⟩:∃ i,C.P.code[k]? = some i:=⟨_,List.getElem?_eq_getElem hlt⟩
   have HI:=zH hi
   clear hi
   go_wp2_with fail
   refine zah 7 (fun W'=>W'.cell? ⟨vf,0,none⟩=some (.pointer (some ⟨fb,0,none⟩))) (by kernel_rfl) rfl rfl (by kernel_rfl) ?_
   simp only[List.take_succ_cons,List.take_zero]
   have HPd:=zH (HP.out.below (Below.refl wr.heap.size wr).drew (Nat.le_refl _))
   have hHeld:wr.drew.cell? ⟨vf,0,none⟩=some (.pointer (some ⟨fb,0,none⟩)):=hvfc 0
   iterate 4(refine tk 0 rfl (by kernel_rfl) (fun _ _ _ h=>h) hHeld (fun w hSw=>by go_simp;try with_reducible rfl) (by simp only[pA,pB,pC,pD,pE,pF,pG,pH];exact rfl) ?_)
   refine tk 6 rfl (by kernel_rfl) (fun _ _ _ h=>h) hHeld (fun w hSw=>by go_simp;try with_reducible rfl) (by simp only[pA,pB,pC,pD,pE,pF,pG,pH];exact rfl) ?_
   refine rdy 4 (by kernel_rfl) rfl fun K hK=>?_
   go_simp
   refine(zkf C HC wr.drew fb k i HPd.out.f.h.onw (hfc 0) HI.out).mono ?_
   rintro e w5 ⟨v,rfl,hrow,hnil,hb5⟩
   have HP5:=zH (HPd.out.below hb5 (Nat.le_refl _))
   obtain⟨va,vc,rfl⟩:=zbx hrow
   refine hK.out _ _ ((HP5.out.vf).cell 0) (fun hHeld=>?_)
   clear hK K
   refine rdy 5 (by kernel_rfl) rfl fun K hK=>?_
   go_simp
   refine(zxw HC w5 fb k va vc _ HP5.out.f.h.onw (HP5.out.f.h.cells.1 0) HP5.out.f.h.f.lt hrow (fun h=>by have:=hnil h;rw[h]at this;injection this with h1 _ h2;exact⟨h1,h2⟩)).mono ?_
   rintro e w6 hpost
   obtain⟨mb,S,rfl,hmb,hmS,hSi,hb6⟩:=hpost.mk
   have HP6:=zH (HP5.out.below hb6 (Nat.le_refl _))
   have hSv:S k=loB C.P k:=by
    rw[Bool.eq_iff_iff,hSi,zrd]
    exact⟨fun h=>⟨hlt,h⟩,fun h=>h.2⟩
   refine hK.out _ _ ((HP6.out.vf).cell 0) (fun hHeld=>?_)
   clear hK K hrow hnil hb5 hSi hpost hb6 HP5 HPd hvpc hvfc hvpl hvfl hfbl hfc hp HP
   refine lst (by kernel_rfl) rfl fun K hK=>?_
   go_simp
   refine(hasE w6 mb k S hmS (by omega)).mono ?_
   rintro e w7 ⟨rfl,rfl⟩
   rw[hSv]
   refine hK _ _ ?_
   clear hK K hHeld hmS hSv
   have hvfc:=HP6.out.vf.cell
   have hvfl:=HP6.out.vf.lt
   have hfbl:=HP6.out.f.h.f.lt
   obtain⟨hfc,hp⟩:=HP6.out.f.h.cells
   dsimp only at hfc hvfc hfbl
   cases hlo:loB C.P k
   ·have REL:=zH (show LoRel C w vp vf ⟨fb,onb,lob,mab,.slice none 0 0,.slice none 0 0,.slice none 0 0⟩ (C.P.code.length-(k+1)) (.int .i64 ((k+1:Nat):Int)) w6 from⟨k+1,rfl,rfl,hlt,by rw[zxy hlo];exact HP6.out⟩)
    clear hlo
    go_wp2_with fail
    go_roundg (C.P.code.length-(k+1))
    case measure=>have:=HG.out;omega
    case rel=>rw[show((k:Int)+1)=((k+1:Nat):Int) by omega];exact REL.out
   ·obtain⟨w8,hrun,hm8,hg8⟩:=HP6.out.f.h.lo.put (k:=k) (by omega)
    have HP8:=HP6.out.mark hm8 hg8
    rw[zur hlo]at HP8
    have REL:=zH (show LoRel C w vp vf ⟨fb,onb,lob,mab,.slice none 0 0,.slice none 0 0,.slice none 0 0⟩ (C.P.code.length-(k+1)) (.int .i64 ((k+1:Nat):Int)) w8 from⟨k+1,rfl,rfl,hlt,HP8⟩)
    dsimp only at hrun
    clear hlo hm8 hg8 HP8
    go_wp2_with fail
    go_roundg (C.P.code.length-(k+1))
    case measure=>have:=HG.out;omega
    case rel=>rw[show((k:Int)+1)=((k+1:Nat):Int) by omega];exact REL.out
  ·obtain rfl:k=C.P.code.length:=by omega
   have hP1:=HP.out
   rw[loTo_end]at hP1
   have HP1:=zH hP1
   clear hP1 HP
   go_wp2_with fail
   have hba:=(Below.refl wr.heap.size wr).alloc (Nat.le_refl _) (.cells #[.func (.func 222) #[.pointer (some ⟨fb,0,none⟩)] #[]] 37)
   have HPa:=zH (HP1.out.below hba (Nat.le_refl _))
   refine(zte (rb:=wr.heap.size) HPa.out.f.h (Blk.newAt rfl)).mono ?_
   rintro e w5 ⟨rfl,ma,hF5,hma,hg5⟩
   have hmaB:ma=maB C.P:=by
    funext g
    rw[Bool.eq_iff_iff,hma g,maB_iff]
   subst hmaB
   have HP5:=zH (HPa.out.loop rfl hF5 hg5)
   clear hba hF5 hma hg5 HPa HP1 hvpc hvfc hvpl hvfl hfbl hfc hp
   have hvpc:=HP5.out.vp.cell
   have hvfc:=HP5.out.vf.cell
   have hfbl:=HP5.out.f.h.f.lt
   obtain⟨hfc,hp⟩:=HP5.out.f.h.cells
   obtain⟨ga,gc,hgv,hgf⟩:=zmq HP5.out.f.h
   have HGF:=zH hgf
   have HGV:=zH hgv
   have hgl:=HC.wf.gl
   simp only[hgv]at hp
   dsimp only at hfc hvfc hfbl
   have ST2:=zH (show MnRel C w vp vf ⟨fb,onb,lob,mab,.slice none 0 0,.slice none 0 0,.slice none 0 0⟩ C.P.gos.length (.int .i64 (0:Int)) w5 from⟨0,.slice none 0 0,rfl,rfl,Nat.zero_le _,by rw[List.take_zero];exact HP5.out⟩)
   clear hgf hgv HP5
   go_wp2_with fail
   clear hvpc hvfc hfc hp hfbl
   go_loopg [60] C.P.gos.length (fun gk v60 wr=>MnRel C w vp vf ⟨fb,onb,lob,mab,.slice none 0 0,.slice none 0 0,.slice none 0 0⟩ gk v60 wr)
   case atStart=>exact ST2.out
   case round =>
    obtain⟨j,sv,rfl,hg,hj,hP⟩:=hrel
    have HG2:=zH hg
    have HP:=zH hP
    have hvpc:=hP.vp.cell
    have hvfc:=hP.vf.cell
    have hvpl:=hP.vp.lt
    have hvfl:=hP.vf.lt
    have hfbl:=hP.f.h.f.lt
    obtain⟨hfc,hp⟩:=hP.f.h.cells
    dsimp only at hfc hvfc hfbl
    clear hg hP
    by_cases hlt:j<C.P.gos.length
    ·obtain⟨k,hk⟩:∃ k,C.P.gos[j]? = some k:=⟨_,List.getElem?_eq_getElem hlt⟩
     obtain⟨gb,hga,hgc⟩:=HGF.out j k hk
     subst hga
     have hgk:wr.cell? ⟨gb,j,none⟩=some (.int .i64 (k:Int)):=hgc wr HP.out.f.h.onw
     obtain⟨i,hi,h7,hkl,hcall,hfn⟩:=zlq HC.wf hk
     have HI:=zH hi
     have hML0:=manyL_at hk hi
     have HML:=zH (show((zau C.P).take j).length≤5 by rw[List.length_take];omega)
     clear hi h7 hk hgc
     go_wp2_with fail
     refine zah 30 (fun W'=>W'.cell? ⟨vf,0,none⟩=some (.pointer (some ⟨fb,0,none⟩))∧W'.cell? ⟨vp,0,none⟩=some (.pointer (some ⟨C.pb,0,none⟩))∧W'.cell? ⟨C.cg,k*14+2,none⟩=some (.int .i64 i.fn)∧(∀ i,W'.cell? ⟨fb,i,none⟩=#[.pointer (some ⟨C.pb,0,none⟩),.map (some onb),sv,.slice none 0 0,.slice none 0 0,.map (some lob),.map (some mab)][i]?)∧(∀ i,W'.cell? ⟨C.pb,i,none⟩=#[.pointer (some ⟨C.X.tb,0,none⟩),.int .i64 C.P.nv,.int .i64 C.P.nm,.slice (some ⟨C.fg,0,none⟩) C.P.fs.length C.fcap,.slice (some ⟨C.cg,0,none⟩) C.P.code.length C.ccap,C.X.av,C.X.nv,C.X.gv,.int .i64 C.P.main][i]?)) (by kernel_rfl) rfl rfl (by kernel_rfl) ?_
     simp only[List.take_succ_cons,List.take_zero]
     have hdd:=(Below.refl wr.heap.size wr).drew
     have HPd:=zH (HP.out.below hdd (Nat.le_refl _))
     have HSS:=zH (show ∀ W',Below wr.heap.size wr W'→W'.cell? ⟨vf,0,none⟩=some (.pointer (some ⟨fb,0,none⟩))∧W'.cell? ⟨vp,0,none⟩=some (.pointer (some ⟨C.pb,0,none⟩))∧W'.cell? ⟨C.cg,k*14+2,none⟩=some (.int .i64 i.fn)∧(∀ i,W'.cell? ⟨fb,i,none⟩=#[.pointer (some ⟨C.pb,0,none⟩),.map (some onb),sv,.slice none 0 0,.slice none 0 0,.map (some lob),.map (some mab)][i]?)∧(∀ i,W'.cell? ⟨C.pb,i,none⟩=#[.pointer (some ⟨C.X.tb,0,none⟩),.int .i64 C.P.nv,.int .i64 C.P.nm,.slice (some ⟨C.fg,0,none⟩) C.P.fs.length C.fcap,.slice (some ⟨C.cg,0,none⟩) C.P.code.length C.ccap,C.X.av,C.X.nv,C.X.gv,.int .i64 C.P.main][i]?)from fun W' hb=>by
      have h:=HP.out.below hb (Nat.le_refl _)
      obtain⟨h1,h2⟩:=h.f.h.cells
      obtain⟨_,_,hic,_,_⟩:=HC.icells h.f.h.onw HI.out
      exact⟨h.vf.cell 0,h.vp.cell 0,hic 2 (by omega),h1,h2⟩)
     have hHeld:=HSS.out _ hdd
     iterate 10(refine tk 0 rfl (by kernel_rfl) (fun _ _ _ h=>h) hHeld (fun w hSw=>by go_simp;try with_reducible rfl) (by simp only[pA,pB,pC,pD,pE,pF,pG,pH];exact rfl) ?_)
     refine rdy 10 (by kernel_rfl) rfl fun K hK=>?_
     go_simp
     refine(hasE _ lob k (loB C.P) HPd.out.f.h.lo (by omega)).mono ?_
     rintro e w7 ⟨rfl,rfl⟩
     refine hK.out _ _ hHeld (fun hHeld=>?_)
     clear hK K
     cases hlo:loB C.P k
     ·have hML:=hML0
      rw[hlo]at hML
      simp only[Bool.false_or]at hML
      clear hML0 hlo
      iterate 13(refine tk 11 rfl (by kernel_rfl) (fun _ _ _ h=>h) hHeld (fun w hSw=>by go_simp;try with_reducible rfl) (by simp only[pA,pB,pC,pD,pE,pF,pG,pH];exact rfl) ?_)
      refine rdy 24 (by kernel_rfl) rfl fun K hK=>?_
      go_simp
      refine(hasE _ mab i.fn (maB C.P) HPd.out.f.h.ma (by omega)).mono ?_
      rintro e w7 ⟨rfl,rfl⟩
      refine hK.out _ _ hHeld (fun hHeld=>?_)
      clear hK K
      refine tk 25 rfl (by kernel_rfl) (fun _ _ _ h=>h) hHeld (fun w hSw=>by go_simp;try with_reducible rfl) (by simp only[pA,pB,pC,pD,pE,pF,pG,pH];exact rfl) ?_
      refine rdy 26 (by kernel_rfl) rfl fun K hK=>?_
      go_simp
      have hX:(zau C.P)[j]? = some (maB C.P i.fn):=by first | exact hML | (rw[hML];simp)
      have hba:=(Below.refl wr.drew.heap.size wr.drew).alloc (Nat.le_refl _) (.cells #[.bool (maB C.P i.fn)] 4)
      have HPa:=zH (HPd.out.below hba (Nat.le_refl _))
      refine hK.out _ _ (HSS.out _ (hdd.trans (hba.mono (Nat.le_refl _)))) (fun hHeld=>?_)
      clear hK K hba
      refine rdy 27 (by kernel_rfl) rfl fun K hK=>?_
      refine zc5 zsu rfl _ _ rfl C.w0.heap.size _ ((zau C.P).take j).length (zh9 ((zau C.P).take j)) wr.heap.size _ _ HPa.out.f.s (Blk.newAt rfl) rfl rfl rfl (by simp[Value.oneCell']) (by have:=HML.out;omega) (by have:=HPa.out.f.h.onw.size;exact this) ?_
      intro g9 cap9 w9 hrow9 hg9 hat9
      have HP9:=zH (HPa.out.many hrow9 hg9 hat9)
      have hfb9:=(HPa.out.f.grown HPa.out.f.s hg9 (by decide)).1
      have hfbc:=hfb9.cells.1
      have hfbf:=hfb9.f.frozen
      have hfbl:=hfb9.f.lt
      have HS9:=zH (OfP.held HPa.out hg9 HI.out)
      clear hfb9 hrow9 hg9 hat9 HPa
      dsimp only at hfbc hfbf hfbl
      refine hK.out _ _ HS9.out (fun hHeld=>?_)
      clear hK K
      iterate 2(refine tk 28 rfl (by kernel_rfl) (fun _ _ _ h=>h) hHeld (fun w hSw=>by go_simp;try with_reducible rfl) (by simp only[pA,pB,pC,pD,pE,pF,pG,pH];exact rfl) ?_)
      refine lst (by kernel_rfl) rfl fun K hK=>?_
      go_simp
      refine hK _ _ ?_
      clear hK K hHeld hfbc hfbf hfbl
      have REL:=zH (show MnRel C w vp vf ⟨fb,onb,lob,mab,.slice none 0 0,.slice none 0 0,.slice none 0 0⟩ (C.P.gos.length-(j+1)) (.int .i64 ((j+1:Nat):Int)) (w9.setCell ⟨fb,2,none⟩ (.slice (some ⟨g9,0,none⟩) (((zau C.P).take j).length+1) cap9))from
       ⟨j+1,_,rfl,rfl,hlt,by
        have h9:=HP9.out
        rw[show(zau C.P).take j++[(maB C.P i.fn)]=(zau C.P).take (j+1) by rw[List.take_add_one,hX];rfl]at h9
        exact h9⟩)
      clear HP9 hX
      go_wp2_with fail
      go_roundg (C.P.gos.length-(j+1))
      case measure=>have:=HG2.out;omega
      case rel =>
       rw[show((j:Int)+1)=((j+1:Nat):Int) by omega]
       have hR:=REL.out
       rw[List.length_take]at hR
       exact hR
     ·have hML:=hML0
      rw[hlo]at hML
      simp only[Bool.true_or]at hML
      clear hML0 hlo
      refine tk 11 rfl (by kernel_rfl) (fun _ _ _ h=>h) hHeld (fun w hSw=>by go_simp;try with_reducible rfl) (by simp only[pA,pB,pC,pD,pE,pF,pG,pH];exact rfl) ?_
      iterate 13(refine sk 12 rfl (by kernel_rfl) (fun _ _ _ h=>h) hHeld (by simp only[pA,pB,pC,pD,pE,pF,pG,pH];exact rfl) ?_)
      refine tk 25 rfl (by kernel_rfl) (fun _ _ _ h=>h) hHeld (fun w hSw=>by go_simp;try with_reducible rfl) (by simp only[pA,pB,pC,pD,pE,pF,pG,pH];exact rfl) ?_
      refine rdy 26 (by kernel_rfl) rfl fun K hK=>?_
      go_simp
      have hX:(zau C.P)[j]? = some (true):=by first | exact hML | (rw[hML];simp)
      have hba:=(Below.refl wr.drew.heap.size wr.drew).alloc (Nat.le_refl _) (.cells #[.bool (true)] 4)
      have HPa:=zH (HPd.out.below hba (Nat.le_refl _))
      refine hK.out _ _ (HSS.out _ (hdd.trans (hba.mono (Nat.le_refl _)))) (fun hHeld=>?_)
      clear hK K hba
      refine rdy 27 (by kernel_rfl) rfl fun K hK=>?_
      refine zc5 zsu rfl _ _ rfl C.w0.heap.size _ ((zau C.P).take j).length (zh9 ((zau C.P).take j)) wr.heap.size _ _ HPa.out.f.s (Blk.newAt rfl) rfl rfl rfl (by simp[Value.oneCell']) (by have:=HML.out;omega) (by have:=HPa.out.f.h.onw.size;exact this) ?_
      intro g9 cap9 w9 hrow9 hg9 hat9
      have HP9:=zH (HPa.out.many hrow9 hg9 hat9)
      have hfb9:=(HPa.out.f.grown HPa.out.f.s hg9 (by decide)).1
      have hfbc:=hfb9.cells.1
      have hfbf:=hfb9.f.frozen
      have hfbl:=hfb9.f.lt
      have HS9:=zH (OfP.held HPa.out hg9 HI.out)
      clear hfb9 hrow9 hg9 hat9 HPa
      dsimp only at hfbc hfbf hfbl
      refine hK.out _ _ HS9.out (fun hHeld=>?_)
      clear hK K
      iterate 2(refine tk 28 rfl (by kernel_rfl) (fun _ _ _ h=>h) hHeld (fun w hSw=>by go_simp;try with_reducible rfl) (by simp only[pA,pB,pC,pD,pE,pF,pG,pH];exact rfl) ?_)
      refine lst (by kernel_rfl) rfl fun K hK=>?_
      go_simp
      refine hK _ _ ?_
      clear hK K hHeld hfbc hfbf hfbl
      have REL:=zH (show MnRel C w vp vf ⟨fb,onb,lob,mab,.slice none 0 0,.slice none 0 0,.slice none 0 0⟩ (C.P.gos.length-(j+1)) (.int .i64 ((j+1:Nat):Int)) (w9.setCell ⟨fb,2,none⟩ (.slice (some ⟨g9,0,none⟩) (((zau C.P).take j).length+1) cap9))from
       ⟨j+1,_,rfl,rfl,hlt,by
        have h9:=HP9.out
        rw[show(zau C.P).take j++[(true)]=(zau C.P).take (j+1) by rw[List.take_add_one,hX];rfl]at h9
        exact h9⟩)
      clear HP9 hX
      go_wp2_with fail
      go_roundg (C.P.gos.length-(j+1))
      case measure=>have:=HG2.out;omega
      case rel =>
       rw[show((j:Int)+1)=((j+1:Nat):Int) by omega]
       have hR:=REL.out
       rw[List.length_take]at hR
       exact hR
    ·obtain rfl:j=C.P.gos.length:=by omega
     have hP2:=HP.out.f
     rw[show(zau C.P).take C.P.gos.length=zau C.P by rw[show C.P.gos.length=(zau C.P).length by simp[zau],List.take_length]]at hP2
     have HR:=zH (zv9 C w wr _ vf HP.out.vf hP2 HP.out.fb HP.out.n HP.out.c)
     clear hP2
     go_wp2_with fail
     refine HR.out.mono ?_
     rintro e w9 ⟨rfl,V',Rs,Bs,hVe,hF,hb9,hvf9b⟩
     have hvf9:w9.cell? ⟨vf,0,none⟩=some (.pointer (some ⟨fb,0,none⟩)):=hvf9b.cell 0
     have FIN:=zH (show ∃ V Rs Bs,Ending.returned (.pointer (some ⟨fb,0,none⟩))=.returned (.pointer (some ⟨V.fb,0,none⟩))∧zec C w9 V Rs Bs∧Below w.heap.size w w9∧w.heap.size≤V.fb from
      ⟨V',Rs,Bs,by rw[hVe],hF,hb9,by rw[hVe];exact HE.out.1⟩)
     clear hF hb9 hVe hvf9b
     go_wp2_with fail
     go_ret
     exact FIN.out
end
end Go.Proofs.YtkmcihhndgdhpaaGreat
