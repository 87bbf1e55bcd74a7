/- Catch Parse Door Parse2 Low LowA LowB LowC LowD ProgAt: parts of the walk. -/
import Derived.Test.YtkmcihhndgdhpaaGreatWA5
import Derived.Defers
import Derived.Recover
import Derived.ChangeAlike
set_option maxRecDepth 100000
set_option maxHeartbeats 4000000
set_option linter.unusedSimpArgs false
set_option linter.unusedVariables false
namespace Go.Proofs.YtkmcihhndgdhpaaGreat
section
open Go.RowKit
theorem zw3 (pa pe b:Nat)(x y:Value)(older:List PanicEntry)(w:World)(ha:Blk w pa 203 #[x])(he:Blk w pe 78 #[y])(hne:pa≠pe) :
  CallsD Tryz.prog 156 #[.pointer (some ⟨pa,0,none⟩),.pointer (some ⟨pe,0,none⟩)] (.panicking ({ v:=.iface 206 (.pointer (some ⟨b,0,none⟩)),recovered:=false }::older)) w fun e u' w' =>
   e=.returned (.tuple #[])∧u'=.panicking ({ v:=.iface 206 (.pointer (some ⟨b,0,none⟩)),recovered:=true }::older)∧w'=(w.setCell ⟨pa,0,none⟩ (.pointer none)).setCell ⟨pe,0,none⟩ (.iface 206 (.pointer (some ⟨b,0,none⟩))):=by
 have hca:=ha.cell 0
 have hce:=he.cell 0
 have hfa:=ha.frozen 0
 have hfe:=he.frozen 0
 clear ha he
 have hta:∀ w,(Instr.typeAssert (.iface 206 (.pointer (some ⟨b,0,none⟩))) 20 206 true).run Tryz.prog w=.ok (.tuple #[.pointer (some ⟨b,0,none⟩),.bool true]) w:=fun w=>by simp[Instr.typeAssert,run_underlying Tryz.underlying206,Result.andThen]
 refine callsD_of_wpS Tryz.func156 rfl fun c₀ cs hu=>?_
 apply wpS_seq
 apply wpS_region
 simp[wpOpsS,go_sem,recoverD,hu,Tryz.ntmps156,Exit.thenS]
 refine wpS_of_wp ?_
 go_wp2
 exact⟨rfl,_,rfl,_,results_none rfl _ _ _,rfl,rfl,rfl⟩
theorem zun (pa pe:Nat)(w:World) :
  CallsD Tryz.prog 156 #[.pointer (some ⟨pa,0,none⟩),.pointer (some ⟨pe,0,none⟩)] .returning w fun e u' w'=>e=.returned (.tuple #[])∧u'=.returning∧w'=w:=by
 refine callsD_of_wpS Tryz.func156 rfl fun c₀ cs hu=>?_
 apply wpS_seq
 apply wpS_region
 simp[wpOpsS,go_sem,recoverD,hu,Tryz.ntmps156,Exit.thenS]
 refine wpS_of_wp ?_
 go_wp2
 cases c₀
 simp_all [bodyPostS,results,Tryz.results156]
theorem zwb (pa pe b:Nat)(x y:Value)(older:List PanicEntry)(w:World)(ha:Blk w pa 158 #[x])(he:Blk w pe 78 #[y])(hne:pa≠pe) :
  CallsD Tryz.prog 110 #[.pointer (some ⟨pa,0,none⟩),.pointer (some ⟨pe,0,none⟩)] (.panicking ({ v:=.iface 206 (.pointer (some ⟨b,0,none⟩)),recovered:=false }::older)) w fun e u' w' =>
   e=.returned (.tuple #[])∧u'=.panicking ({ v:=.iface 206 (.pointer (some ⟨b,0,none⟩)),recovered:=true }::older)∧w'=(w.setCell ⟨pa,0,none⟩ (.pointer none)).setCell ⟨pe,0,none⟩ (.iface 206 (.pointer (some ⟨b,0,none⟩))):=by
 have hca:=ha.cell 0
 have hce:=he.cell 0
 have hfa:=ha.frozen 0
 have hfe:=he.frozen 0
 clear ha he
 have hta:∀ w,(Instr.typeAssert (.iface 206 (.pointer (some ⟨b,0,none⟩))) 20 206 true).run Tryz.prog w=.ok (.tuple #[.pointer (some ⟨b,0,none⟩),.bool true]) w:=fun w=>by simp[Instr.typeAssert,run_underlying Tryz.underlying206,Result.andThen]
 refine callsD_of_wpS Tryz.func110 rfl fun c₀ cs hu=>?_
 apply wpS_seq
 apply wpS_region
 simp[wpOpsS,go_sem,recoverD,hu,Tryz.ntmps110,Exit.thenS]
 refine wpS_of_wp ?_
 go_wp2
 exact⟨rfl,_,rfl,_,results_none rfl _ _ _,rfl,rfl,rfl⟩
theorem zt1 (pa pe:Nat)(w:World) :
  CallsD Tryz.prog 110 #[.pointer (some ⟨pa,0,none⟩),.pointer (some ⟨pe,0,none⟩)] .returning w fun e u' w'=>e=.returned (.tuple #[])∧u'=.returning∧w'=w:=by
 refine callsD_of_wpS Tryz.func110 rfl fun c₀ cs hu=>?_
 apply wpS_seq
 apply wpS_region
 simp[wpOpsS,go_sem,recoverD,hu,Tryz.ntmps110,Exit.thenS]
 refine wpS_of_wp ?_
 go_wp2
 cases c₀
 simp_all [bodyPostS,results,Tryz.results110]
theorem pF {α : Type}(l:List α)(i:Nat)(h:i<l.toArray.size):l.toArray[i]=l[i]'(by simpa using h):=rfl
theorem pG {α : Type}(a:α)(l:List α)(h:0<(a::l).length):(a::l)[0]=a:=rfl
theorem pH {α : Type}(a:α)(l:List α)(n:Nat)(h:n+1<(a::l).length):(a::l)[n+1]=l[n]'(by simpa using h):=rfl
end
section
open Go.RowKit
attribute [local go_sem] zaq
theorem zon {t:ByteArray}{s:Sc}{k:Nat}{p:(Dcl×List Stm)×Sc}(h:zd9 t s k=.ok p)(hs:s.at_≤t.size):p.2.at_≤t.size∧s.at_+1+p.1.2.length≤p.2.at_:=by
 unfold zd9 at h
 split at h
 ·obtain⟨s1,h1,h2⟩:=zac h
  obtain⟨q,h3,h4⟩:=zac h2
  obtain⟨s2,h5,h6⟩:=zac h4
  injection h6 with h6;subst h6
  have b1:=zcv h1 hs
  have b2:=zhb h3 b1.1
  have b3:=zd0 h5 b2.1
  have hlt:=zfp h1 hs (by have:=(zf3 h3).1;omega)
  exact⟨b3.1,by simp;omega⟩
 ·split at h
  ·obtain⟨s1,h1,h2⟩:=zac h
   obtain⟨q,h3,h4⟩:=zac h2
   obtain⟨s2,h5,h6⟩:=zac h4
   obtain⟨r,h7,h8⟩:=zac h6
   obtain⟨b,h9,h10⟩:=zac h8
   injection h10 with h10;subst h10
   have b1:=zcv h1 hs
   have b2:=zhb h3 b1.1
   have b3:=zd0 h5 b2.1
   have b4:=zkl h7 b3.1
   have b5:=zmg (fun s k p h hs=>zk2 6 1 s k p h hs) h9 b4.1
   have hlt:=zfp h1 hs (by have:=(zf3 h3).1;omega)
   have:=b5.2
   exact⟨b5.1,by simp;omega⟩
  ·cases h
theorem decl_any (C:PC)(w:World)(s:Sc)(dv:Value)(ds:List Dcl)(ptrs:List Nat)(E:Env C w s)(T:TrAt C w dv ptrs)(D:DvAt C w dv ds)(hd:ds.length≤701)(hat:ptrs.length≤s.at_) :
  Calls Tryz.prog 159 #[.pointer (some ⟨C.pb,0,none⟩)] w (zdp C w ds ptrs (zd9 C.t s ptrs.length)):=by
 have key:∀ (x y:ByteArray),eqB x y=false→za5 s x=true→za5 s y=false:=by
  intro x y hxy hx
  unfold za5 at hx ⊢
  simp only[Bool.and_eq_true]at hx
  rw[hx.1,Bool.true_and]
  exact eqB_ne hx.2 hxy
 by_cases h1:za5 s wVar=true
 ·exact decl_var C w s dv ds ptrs E T D hd h1 (key _ _ (by decide) h1) (key _ _ (by decide) h1)
 by_cases h2:za5 s zf1=true
 ·exact zuf C w s dv ds ptrs E T D hd (by simpa using h1) h2 (key _ _ (by decide) h2)
 by_cases h3:za5 s zga=true
 ·exact zxx C w s dv ds ptrs E T D hd hat (by simpa using h1) (by simpa using h2) h3
 refine zw6 C w s ptrs _ E (by simpa using h1) (by simpa using h2) (by simpa using h3) ?_
 rintro w' (⟨a,v,_,_,h,_⟩ | h)
 ·exact h.elim
 ·exact .inr h
def zd4 (w:World)(B tb:Nat)(ds:List Dcl)(xs:List Stm):Prop :=
 B≤tb∧∃ dv sv ptrs ps,Blk w tb 218 #[dv,sv]∧w.ownsRow B 398 1 sv ptrs.length (ptrs.map ptrV)∧zav w B ptrs xs∧w.ownsRow B 223 7 dv ds.length (ze1 ps ds)∧zb2 w B ps ds
def zhy {α : Type}(w:World)(r:Except Flt α)(K:α → Nat→World→Prop)(e:Ending)(w':World):Prop :=
 (∃ a b,r=.ok a∧e=.returned (.tuple #[.pointer (some ⟨b,0,none⟩),.nilIface])∧K a b w'∧w.heap.size≤b∧Below w.heap.size w w') ∨
 (∃ f b,r=.error f∧e=.returned (.tuple #[.pointer none,.iface 206 (.pointer (some ⟨b,0,none⟩))])∧za1 w' b f∧w.heap.size≤b∧Below w.heap.size w w')
def znl (C:PC)(w0:World)(M:Except Flt (List Dcl×List Stm))(n:Nat)(wr:World):Prop :=
 ∃ (s:Sc) (dv:Value) (ds:List Dcl) (ptrs:List Nat) (xs:List Stm),Env C wr s∧TrAt C wr dv ptrs∧DvAt C wr dv ds∧zav wr C.B ptrs xs∧Chg C.B [398,223] [C.sb,C.tb] w0 wr ∧
  ds.length+ptrs.length≤s.at_∧C.t.size-s.at_<n∧M=zab (zdi C.t n s ptrs.length) fun q=>.ok (ds++q.1,xs++q.2)
theorem ztp {C:PC}{w0 wr w1:World}{M:Except Flt (List Dcl×List Stm)}{n:Nat}{s:Sc}{dv:Value}{ds:List Dcl}{ptrs:List Nat}{xs:List Stm}{p:(Dcl×List Stm)×Sc}{m:Nat}
  (E:Env C wr s) (T:TrAt C wr dv ptrs) (S:zav wr C.B ptrs xs) (hc:Chg C.B [398,223] [C.sb,C.tb] w0 wr)
  (hB:C.B≤w0.heap.size) (hat:ds.length+ptrs.length≤s.at_) (hn:C.t.size-s.at_<n) (hm:n=m+1) (hM:M=zab (zdi C.t n s ptrs.length) fun q=>.ok (ds++q.1,xs++q.2)) (hk:s.kind≠0) (hr:zd9 C.t s ptrs.length=.ok p)
  (hd:DDone C wr ds ptrs p.1.2 p.1.1 p.2 w1) (hch:Chg C.B [398,223] [C.sb,C.tb] wr w1):znl C w0 M m w1:=by
 obtain⟨dv1,news,hE,hT,hD,hS⟩:=hd
 subst hm
 have hle:=zon hr E.at_
 have hl:=hS.length
 obtain⟨tv,htb,_⟩:=T
 refine⟨p.2,dv1,ds++[p.1.1],ptrs++news,xs++p.1.2,hE,hT,hD,?_,hc.trans hch,?_,?_,?_⟩
 ·refine zav.append (S.chg hch (by decide) (by decide) (by decide) ?_) (hS.map (Nat.le_trans hB hc.size) fun b y _ _ h=>h.low (Nat.le_trans hB hc.size))
  intro g hg
  rcases(by simpa using hg)with rfl | rfl
  ·exact⟨_,_,E.sc,by decide,by decide,by decide⟩
  ·exact⟨_,_,htb,by decide,by decide,by decide⟩
 ·simp;omega
 ·omega
 ·rw[hM,zdi,if_neg hk,hr,zae,zig,List.length_append,hl]
  congr 1
  funext q
  simp[zab]
end
section
open Go.RowKit
theorem znu {tmps:Array Value}{R:Ending→World→Prop}{w:World}{pa pe b:Nat}{x y:Value}(h2:tmps[2]?.getD undef=.pointer (some ⟨pa,0,none⟩))(h3:tmps[3]?.getD undef=.pointer (some ⟨pe,0,none⟩))
  (ha:Blk w pa 203 #[x]) (he:Blk w pe 78 #[y]) (hne:pa≠pe)
  (hR:R (.returned (.tuple #[.pointer none,.iface 206 (.pointer (some ⟨b,0,none⟩))])) ((w.setCell ⟨pa,0,none⟩ (.pointer none)).setCell ⟨pe,0,none⟩ (.iface 206 (.pointer (some ⟨b,0,none⟩))))) :
  Leaves Tryz.prog Tryz.f109 tmps R [{ target:=.fn (.func 156) #[.pointer (some ⟨pa,0,none⟩),.pointer (some ⟨pe,0,none⟩)],args:=#[] }] (.panicking (zfm b)) w:=by
 refine leaves_cons (f:=156) (args:=#[.pointer (some ⟨pa,0,none⟩),.pointer (some ⟨pe,0,none⟩)]) (by simp) (by simp[go_sem]) ?_
 refine(zw3 pa pe b x y [] w ha he hne).mono ?_
 rintro e u' w'' ⟨rfl,rfl,rfl⟩
 have c1:=Blk.cell ((ha.set_ 0 (.pointer none)).far (p:=⟨pe,0,none⟩) hne (.iface 206 (.pointer (some ⟨b,0,none⟩)))) 0
 have c2:=Blk.cell ((he.far (p:=⟨pa,0,none⟩) hne.symm (.pointer none)).set_ 0 (.iface 206 (.pointer (some ⟨b,0,none⟩)))) 0
 refine⟨_,?_,hR⟩
 simp at c1 c2
 simp[results,Tryz.results109,go_sem,h2,h3,c1,c2]
theorem zt9 {tmps:Array Value}{R:Ending→World→Prop}{w:World}{pa pe:Nat}{x y:Value}(h2:tmps[2]?.getD undef=.pointer (some ⟨pa,0,none⟩))(h3:tmps[3]?.getD undef=.pointer (some ⟨pe,0,none⟩))
  (ha:Blk w pa 203 #[x]) (he:Blk w pe 78 #[y]) (hR:R (.returned (.tuple #[x,y])) w) :
  Leaves Tryz.prog Tryz.f109 tmps R [{ target:=.fn (.func 156) #[.pointer (some ⟨pa,0,none⟩),.pointer (some ⟨pe,0,none⟩)],args:=#[] }] .returning w:=by
 refine leaves_cons (f:=156) (args:=#[.pointer (some ⟨pa,0,none⟩),.pointer (some ⟨pe,0,none⟩)]) (by simp) (by simp[go_sem]) ?_
 refine(zun pa pe w).mono ?_
 rintro e u' w'' ⟨rfl,rfl,rfl⟩
 have c1:=ha.cell 0
 have c2:=he.cell 0
 refine⟨_,?_,hR⟩
 simp at c1 c2
 simp[results,Tryz.results109,go_sem,h2,h3,c1,c2]
theorem zj0 {tmps:Array Value}{R:Ending→World→Prop}{w:World}{pa pe b:Nat}{x y:Value}(h2:tmps[2]?.getD undef=.pointer (some ⟨pa,0,none⟩))(h3:tmps[3]?.getD undef=.pointer (some ⟨pe,0,none⟩))
  (ha:Blk w pa 158 #[x]) (he:Blk w pe 78 #[y]) (hne:pa≠pe)
  (hR:R (.returned (.tuple #[.pointer none,.iface 206 (.pointer (some ⟨b,0,none⟩))])) ((w.setCell ⟨pa,0,none⟩ (.pointer none)).setCell ⟨pe,0,none⟩ (.iface 206 (.pointer (some ⟨b,0,none⟩))))) :
  Leaves Tryz.prog Tryz.f69 tmps R [{ target:=.fn (.func 110) #[.pointer (some ⟨pa,0,none⟩),.pointer (some ⟨pe,0,none⟩)],args:=#[] }] (.panicking (zfm b)) w:=by
 refine leaves_cons (f:=110) (args:=#[.pointer (some ⟨pa,0,none⟩),.pointer (some ⟨pe,0,none⟩)]) (by simp) (by simp[go_sem]) ?_
 refine(zwb pa pe b x y [] w ha he hne).mono ?_
 rintro e u' w'' ⟨rfl,rfl,rfl⟩
 have c1:=Blk.cell ((ha.set_ 0 (.pointer none)).far (p:=⟨pe,0,none⟩) hne (.iface 206 (.pointer (some ⟨b,0,none⟩)))) 0
 have c2:=Blk.cell ((he.far (p:=⟨pa,0,none⟩) hne.symm (.pointer none)).set_ 0 (.iface 206 (.pointer (some ⟨b,0,none⟩)))) 0
 refine⟨_,?_,hR⟩
 simp at c1 c2
 simp[results,Tryz.results69,go_sem,h2,h3,c1,c2]
theorem ztm {tmps:Array Value}{R:Ending→World→Prop}{w:World}{pa pe:Nat}{x y:Value}(h2:tmps[2]?.getD undef=.pointer (some ⟨pa,0,none⟩))(h3:tmps[3]?.getD undef=.pointer (some ⟨pe,0,none⟩))
  (ha:Blk w pa 158 #[x]) (he:Blk w pe 78 #[y]) (hR:R (.returned (.tuple #[x,y])) w) :
  Leaves Tryz.prog Tryz.f69 tmps R [{ target:=.fn (.func 110) #[.pointer (some ⟨pa,0,none⟩),.pointer (some ⟨pe,0,none⟩)],args:=#[] }] .returning w:=by
 refine leaves_cons (f:=110) (args:=#[.pointer (some ⟨pa,0,none⟩),.pointer (some ⟨pe,0,none⟩)]) (by simp) (by simp[go_sem]) ?_
 refine(zt1 pa pe w).mono ?_
 rintro e u' w'' ⟨rfl,rfl,rfl⟩
 have c1:=ha.cell 0
 have c2:=he.cell 0
 refine⟨_,?_,hR⟩
 simp at c1 c2
 simp[results,Tryz.results69,go_sem,h2,h3,c1,c2]
end
section
open Go.RowKit
attribute [local go_sem] zaq
def zmx (w:World)(t:ByteArray):Ending→World→Prop:=zhy w (zd8 t) fun a b w'=>zd4 w' w.heap.size b a.1 a.2
theorem zmp {α : Type}{w w1:World}{M:Except Flt α}{K:α → Nat→World→Prop}{f:Flt}{pa pe b:Nat}{ta:TypeId}{xa ye:Array Value}{u v:Value}(ha:Blk w1 pa ta xa)(hta:ta≠323)(he:Blk w1 pe 78 ye)
  (hM:M=.error f) (hf:za1 w1 b f) (hb:w.heap.size≤b) (hpa:w.heap.size≤pa) (hpe:w.heap.size≤pe) (hc:Below w.heap.size w w1) :
  zhy w M K (.returned (.tuple #[.pointer none,.iface 206 (.pointer (some ⟨b,0,none⟩))])) ((w1.setCell ⟨pa,0,none⟩ u).setCell ⟨pe,0,none⟩ v) :=
 .inr ⟨f,b,hM,rfl,(Blk.far hf (p:=⟨pa,0,none⟩) (Blk.ne_ hf ha hta.symm) u).far (p:=⟨pe,0,none⟩) (Blk.ne_ hf he (by decide)) v,hb,(hc.setCell (by exact hpa) _).setCell (by exact hpe) _⟩
theorem zuo (w:World)(t:ByteArray)(ht:700<t.size):Calls Tryz.prog 109 #[.string t] w (zmx w t):=by
 have hmf:∀ (fn:Fn) (first cap:Array Value) (w:World),(Instr.makeFunc fn first cap).run Tryz.prog w=.ok (.func fn first cap) w:=fun _ _ _ _=>rfl
 have MD:=zH (show zd8 t=.error ⟨1,0⟩ by unfold zd8;rw[if_pos ht])
 have h7:decide ((700:Int)<(t.size:Int))=true:=by rw[decide_eq_true_iff];omega
 go_enter_defers Tryz.func109,Tryz.ntmps109
 go_wp2_with fail
 refine(zfb _ _ _).mono ?_
 rintro e w4 ⟨rfl,rfl⟩
 have ha:=((Blk.newAt (w:=w) (t:=203) (cs:=#[.pointer none]) rfl).alloc (.cells #[.nilIface] 78)).alloc (.cells #[.int .i64 1,.int .i64 0] 323)
 have he:=(Blk.newAt (w:=w.alloc (.cells #[.pointer none] 203)) (g:=w.heap.size+1) (t:=78) (cs:=#[.nilIface]) (by simp)).alloc (.cells #[.int .i64 1,.int .i64 0] 323)
 refine znu rfl rfl ha he (by omega) ?_
 exact zmp ha (by decide) he MD.out (za1.new (by simp)) (by simp;omega) (by omega) (by omega) ((((Below.refl _ _).alloc (Nat.le_refl _) _).alloc (by simp) _).alloc (by simp;omega) _)
def pcOf (w:World)(t:ByteArray):PC:={ B:=w.heap.size,pb:=w.heap.size+4,sb:=w.heap.size+2,tb:=w.heap.size+3,t:=t,rb:=w.heap.size }
structure PEnv (w:World)(t:ByteArray)(W:World):Prop where
 a:Blk W w.heap.size 203 #[.pointer none]
 e:Blk W (w.heap.size+1) 78 #[.nilIface]
 c:Below w.heap.size w W
theorem PEnv.chg {w W W1:World}{t:ByteArray}{ts:List TypeId}(P:PEnv w t W)(hc:Chg w.heap.size ts [w.heap.size+2,w.heap.size+3] W W1)(h1:203 ∉ ts)(h2:78 ∉ ts):PEnv w t W1 :=
 ⟨P.a.chg hc h1 (by simp),P.e.chg hc h2 (by simp),P.c.trans (hc.below P.c.size)⟩
theorem zd4.farT {w:World}{B tb g:Nat}{ds:List Dcl}{xs:List Stm}{t:TypeId}{cs:Array Value}(h:zd4 w B tb ds xs)(hg:Blk w g t cs)(h1:t≠218)(h2:t≠398)(h3:t≠439)(h4:t≠220)(h5:t≠3)
  (h6:t≠223) (i:Nat) (u:Value):zd4 (w.setCell ⟨g,i,none⟩ u) B tb ds xs:=by
 obtain⟨hB,dv,sv,ptrs,ps,a,b,c,d,e⟩:=h
 exact⟨hB,dv,sv,ptrs,ps,a.far (a.ne_ hg h1.symm) _,zaj b hg h2.symm _ _,c.map (Nat.le_refl _) (fun _ _ _ _ h=>h.farT hg h3 h4 h5 _ _),zaj d hg h6.symm _ _,e.map (fun _ _ h=>zaj h hg h4.symm _ _) (fun _ _ h=>zaj h hg h5.symm _ _)⟩
theorem zwj (w:World)(t:ByteArray)(ht:t.size≤700):Calls Tryz.prog 109 #[.string t] w (zmx w t):=by
 have hmf:∀ (fn:Fn) (first cap:Array Value) (w:World),(Instr.makeFunc fn first cap).run Tryz.prog w=.ok (.func fn first cap) w:=fun _ _ _ _=>rfl
 have MD0:=zH (show zd8 t=zab (zam t { at_:=0,kind:=0,tok:={},sign:=0 }) fun s=>zdi t (t.size+1) s 0 by unfold zd8;rw[if_neg (by omega)])
 have h7:decide ((700:Int)<(t.size:Int))=false:=by rw[decide_eq_false_iff_not];omega
 have HT:=zH ht
 go_enter_defers Tryz.func109,Tryz.ntmps109
 clear ht
 go_wp2_with fail
 refine zag (fun W=>Env (pcOf w t) W { at_:=0,kind:=0,tok:={},sign:=0 }∧Blk W (w.heap.size+3) 218 #[.slice none 0 0,.slice none 0 0]∧PEnv w t W) ⟨⟨?_,?_,Nat.zero_le _,HT.out,by simp[pcOf],by simp[pcOf]⟩,?_,⟨?_,?_,?_⟩⟩ ?_
 ·exact Blk.newAt (by simp[pcOf])
 ·exact((Blk.newAt (by simp[pcOf])).alloc _).alloc _
 ·exact(Blk.newAt (by simp)).alloc _
 ·exact((((Blk.newAt rfl).alloc _).alloc _).alloc _).alloc _
 ·exact(((Blk.newAt (by simp)).alloc _).alloc _).alloc _
 ·exact(((((Below.refl _ _).alloc (Nat.le_refl _) _).alloc (by simp) _).alloc (by simp;omega) _).alloc (by simp;omega) _).alloc (by simp;omega) _
 rintro w1 ⟨hE1,hT1,hP1⟩
 have HE1:=zH hE1
 have HT1:=zH hT1
 have HP1:=zH hP1
 clear hE1 hT1 hP1 h7
 refine(zck HE1.out).mono ?_
 rintro e w2 (⟨s,v,hr,rfl,⟨rfl,hE⟩,hch⟩ | ⟨f,b,hr,rfl,hfb,hle,hch⟩)
 rotate_left
 ·have P2:=HP1.out.chg (hch.mono (by simp) (by simp[pcOf])) (ts:=[]) (by simp) (by simp)
  refine znu rfl rfl (P2).a (P2).e (by omega) ?_
  exact zmp (P2).a (by decide) (P2).e (MD0.out.trans (by rw[show zam t _=_ from hr,zc1])) hfb (Nat.le_trans HP1.out.c.size hle) (Nat.le_refl _) (by omega) (P2).c
 have P2:=zH (HP1.out.chg (hch.mono (by simp) (by simp[pcOf])) (ts:=[]) (by simp) (by simp))
 have MD1:=zH (show zd8 t=zdi t (t.size+1) s 0 from MD0.out.trans (by rw[show zam t _=_ from hr,zae]))
 have ST:=zH (show znl (pcOf w t) w2 (zd8 t) (t.size+1) w2 from⟨s,.slice none 0 0,[],[],[],hE,⟨_,HT1.out.chg hch (by simp) (by simp[pcOf]),World.ownsRow_nil _ _ _ _⟩,⟨[],World.ownsRow_nil _ _ _ _,trivial⟩,trivial,Chg.refl _ _ _ _,by simp,by simp[pcOf];omega,by rw[MD1.out];show zdi t _ s 0=zab (zdi t _ s 0) _;cases zdi t (t.size+1) s 0 <;> simp[zab]⟩)
 clear hr hE hch
 go_wp2_with fail
 go_loopg [] (t.size+1) (fun n wr=>znl (pcOf w t) w2 (zd8 t) n wr)
 case atStart=>exact ST.out
 case round =>
  obtain⟨s2,dv,ds,ptrs,xs,hE,hT,hD,hS,hch,hat,hn,hM⟩:=hrel
  have hlen:ds.length≤701∧ptrs.length≤s2.at_:=⟨by have h1:=hE.at_;have h2:=hE.tsz;omega,by omega⟩
  have hpr:∀ i,wr.cell? ⟨w.heap.size+1+1+1+1,i,none⟩=#[.pointer (some ⟨w.heap.size+1+1,0,none⟩),.pointer (some ⟨w.heap.size+1+1+1,0,none⟩)][i]? := hE.p.cell
  have hcr:∀ i,wr.cell? ⟨w.heap.size+1+1,i,none⟩=#[.string t,.int .i64 s2.at_,.int .i64 s2.kind,.string s2.tok.text,.int .i64 s2.tok.at_,.bool s2.tok.num,.int .i64 s2.tok.n,.int .u8 s2.sign.toNat][i]? := Blk.cell hE.sc
  have hpl:w.heap.size+1+1+1+1<wr.heap.size:=hE.p.lt
  have P3:=zH (P2.out.chg (hch.mono (fun _ h=>h) (by simp[pcOf])) (by decide) (by decide))
  have HE:=zH hE
  have HD:=zH hD
  have HS:=zH hS
  have HTr:=zH hT
  have HC:=zH hch
  have HM:=zH hM
  have N:=zH hn
  have HA:=zH hat
  have HL:=zH hlen
  have hpa:=P3.out.a.lt
  have hpe:=P3.out.e.lt
  have hfa:=P3.out.a.frozen
  have hfe:=P3.out.e.frozen
  have hca:=P3.out.a.cell
  have hce:=P3.out.e.cell
  clear hE hT hD hS hch hat hn hM hlen
  by_cases hk:s2.kind=0
  ·have k1:((s2.kind:Int) != 0)=false:=by rw[hk];rfl
   have MD2:=zH (show zd8 t=.ok (ds,xs)from HM.out.trans (by
    obtain⟨m,hm⟩:∃ m,gk=m+1:=⟨gk-1,by have:=N.out;omega⟩
    rw[hm,zdi,if_pos hk];simp[zab]))
   clear hk
   go_wp2_with fail
   have ha4:=(P3.out.a.set_ 0 (.pointer (some ⟨w.heap.size+1+1+1,0,none⟩))).far (p:=⟨w.heap.size+1,0,none⟩) (by simp) .nilIface
   have he4:=(P3.out.e.far (p:=⟨w.heap.size,0,none⟩) (by simp) (.pointer (some ⟨w.heap.size+1+1+1,0,none⟩))).set_ 0 .nilIface
   refine zt9 rfl rfl ha4 he4 ?_
   obtain⟨sv,hTb,hTr⟩:=HTr.out
   obtain⟨ps,hDr,hDs⟩:=HD.out
   have TA:zd4 wr w.heap.size (w.heap.size+1+1+1) ds xs:=⟨by omega,dv,sv,ptrs,ps,hTb,hTr,HS.out,hDr,hDs⟩
   exact .inl ⟨(ds,xs),w.heap.size+1+1+1,MD2.out,rfl,(TA.farT P3.out.a (by decide) (by decide) (by decide) (by decide) (by decide) (by decide) _ _).farT (P3.out.e.far (p:=⟨w.heap.size,0,none⟩) (by simp) _) (by decide) (by decide) (by decide) (by decide) (by decide) (by decide) _ _,by omega,
    (P3.out.c.setCell (by exact Nat.le_refl _) _).setCell (by exact Nat.le_succ _) _⟩
  ·have k1:((s2.kind:Int) != 0)=true:=bne_iff_ne.2 (by omega)
   have HK:=zH hk
   clear hk
   go_wp2_with fail
   refine(decl_any _ _ _ dv ds ptrs HE.out HTr.out HD.out HL.out.1 HL.out.2).mono ?_
   obtain⟨m,hm⟩:∃ m,gk=m+1:=⟨gk-1,by have:=N.out;omega⟩
   rintro e w4 (⟨p,v,hr,rfl,⟨rfl,hDD⟩,hch⟩ | ⟨f,b,hr,rfl,hfb,hle,hch⟩)
   rotate_left
   ·have P4:=P3.out.chg (hch.mono (fun _ h=>h) (by simp[pcOf])) (by decide) (by decide)
    refine znu rfl rfl (P4).a (P4).e (by omega) ?_
    exact zmp (P4).a (by decide) (P4).e (HM.out.trans (by rw[hm,zdi,if_neg HK.out,hr,zc1,zc1])) hfb (Nat.le_trans P3.out.c.size hle) (Nat.le_refl _) (by omega) (P4).c
   have ST2:=zH (ztp HE.out HTr.out HS.out HC.out (by simp[pcOf];exact P2.out.c.size) HA.out N.out hm HM.out HK.out hr hDD hch)
   have hE4:=hDD.choose_spec.choose_spec.1.p.cell
   clear hr hDD hch
   go_wp2_with fail
   go_roundg m
   case measure=>omega
   case rel=>exact ST2.out
theorem zuu (w:World)(t:ByteArray):Calls Tryz.prog 109 #[.string t] w (zmx w t):=by
 by_cases ht:700<t.size
 ·exact zuo w t ht
 ·exact zwj w t (by omega)
end
section
open Go.RowKit Go.Maps
abbrev nenc:ByteArray→Value:=fun s=>Value.string s
abbrev nok:ByteArray→Prop:=fun s=>s.size≤maxLen
abbrev ienc:Nat→Value:=fun n=>Value.int .i64 (n:Int)
abbrev NM (w:World)(b:Nat)(m:NMap):Prop:=zaf w b nenc nok ienc m
theorem nkey:zfl Tryz.prog 9 nenc nok:=strKey Tryz.underlying9
theorem zal {n:Nm}(h:okNm n):nok n.text:=by
 unfold okNm at h;show _≤maxLen;unfold maxLen;omega
def zgj (a:Ar):List Value:=[.bool a.c,.int .i64 a.n]
def arV (a:Ar):Value:=.agg #[.bool a.c,.int .i64 a.n]
def zas (i:In)(a:Value):List Value:=[.int .i64 i.op,.int .i64 i.place,.int .i64 i.fn,.int .i64 i.x,.bool i.y.c,.int .i64 i.y.n,.bool i.z.c,.int .i64 i.z.n,.int .i64 i.bin,.int .i64 i.var,.int .i64 i.site,.int .i64 i.call,a,.int .i64 i.to]
def zcb (f:Fu):List Value:=[.string f.name,.int .i64 f.params,.int .i64 f.locals,.int .i64 f.from_,.int .i64 f.to]
def zhe (w:World)(B:Nat)(v:Value)(l:List Ar):Prop:=w.ownsRow B 306 2 v l.length (l.flatMap zgj)
def zcx (ags:List Value)(code:List In):List Value:=(List.zipWith (fun a i=>zas i a) ags code).flatten
structure LC where
 w0:World
 B0:Nat
 tb:Nat
 ds:List Dcl
 xs:List Stm
 lb:Nat
 pb:Nat
 vb:Nat
 mb:Nat
 fb:Nat
abbrev LC.B (C:LC):Nat:=C.w0.heap.size
structure LCok (C:LC):Prop where
 lb:C.B≤C.lb
 pb:C.B≤C.pb
 vb:C.B≤C.vb
 mb:C.B≤C.mb
 fb:C.B≤C.fb
 vm:C.vb≠C.mb
 vf:C.vb≠C.fb
 mf:C.mb≠C.fb
 tree:zd4 C.w0 C.B0 C.tb C.ds C.xs
 sp:zcf (fun j=>C.xs[j]?) C.ds 0 C.xs.length
 xl:C.xs.length≤700
 dl:C.ds.length≤700
structure LV where
 lm:Option Nat
 fsv:Value
 cv:Value
 av:Value
 nv:Value
 gv:Value
 ags:List Value
def Sep (u v:Value):Prop:=∀ k,u.ownBlock=some k→v.ownBlock≠some k
theorem Sep.symm {u v:Value}(h:Sep u v):Sep v u:=fun k h1 h2=>h k h2 h1
def zb5 (l:List Nat):List Value:=l.map ienc
structure LI (s:Lo):Prop where
 fl:s.fs.length=s.funs.length
 f5:s.funs.length≤5
 al:s.at_.length≤48
 nl:s.news.length≤6
 gl:s.gos.length≤5
 fok:∀ p ∈ s.funs,p.2<s.fs.length
structure LE (C:LC)(w:World)(s:Lo)(V:LV):Prop where
 c:LCok C
 bel:Below C.B C.w0 w
 l:Blk w C.lb 214 #[.pointer (some ⟨C.pb,0,none⟩),.pointer (some ⟨C.tb,0,none⟩),.map (some C.vb),.map (some C.mb),.map (some C.fb),.map V.lm,.int .i64 s.fn]
 p:Blk w C.pb 211 #[.pointer (some ⟨C.tb,0,none⟩),.int .i64 s.nv,.int .i64 s.nm,V.fsv,V.cv,V.av,V.nv,V.gv,.int .i64 0]
 vm:NM w C.vb s.vars
 mm:NM w C.mb s.muts
 fm:NM w C.fb s.funs
 lm:∀ b,V.lm=some b→NM w b s.locs∧C.B≤b∧b≠C.vb∧b≠C.mb∧b≠C.fb
 fr:w.ownsRow C.B 228 5 V.fsv s.fs.length (s.fs.flatMap zcb)
 cr:w.ownsRow C.B 309 14 V.cv s.code.length (zcx V.ags s.code)
 asl:V.ags.length=s.code.length
 ar:∀ (k:Nat) a i,V.ags[k]? = some a→s.code[k]? = some i→zhe w C.B a i.args
 atr:w.ownsRow C.B 3 1 V.av s.at_.length (zb5 s.at_)
 nr:w.ownsRow C.B 3 1 V.nv s.news.length (zb5 s.news)
 gr:w.ownsRow C.B 3 1 V.gv s.gos.length (zb5 s.gos)
 s1:Sep V.av V.nv
 s2:Sep V.av V.gv
 s3:Sep V.nv V.gv
 i:LI s
def Uses (C:LC)(V:LV)(k:Nat):Prop :=
 k<C.B∨k=C.lb∨k=C.pb∨k=C.vb∨k=C.mb∨k=C.fb∨V.lm=some k∨V.fsv.ownBlock=some k∨V.cv.ownBlock=some k∨V.av.ownBlock=some k∨V.nv.ownBlock=some k∨V.gv.ownBlock=some k∨∃ a ∈ V.ags,a.ownBlock=some k
theorem zcr {w w1:World}{B:Nat}{e:TypeId}{size:Nat}{v:Value}{n:Nat}{xs:List Value}(h:w.ownsRow B e size v n xs)(hk:∀ k,v.ownBlock=some k→w1.heap[k]? = w.heap[k]?):w1.ownsRow B e size v n xs:=by
 obtain⟨h1,h2⟩:=h
 refine⟨h1,?_⟩
 rcases h2 with h2 | ⟨g,cap,cur,hv,hg,hh,r⟩
 ·exact .inl h2
 ·subst hv
  exact .inr ⟨g,cap,cur,rfl,hg,(hk g rfl).trans hh,r⟩
section
variable {C:LC} {w w1:World} {s:Lo} {V:LV}
theorem LE.lt (h:LE C w s V){k:Nat}(hu:Uses C V k):k<w.heap.size:=by
 have hz:C.B≤w.heap.size:=h.bel.size
 rcases hu with hu | rfl | rfl | rfl | rfl | rfl | hu | hu | hu | hu | hu | hu | ⟨a,ha,hu⟩
 ·omega
 ·exact h.l.lt
 ·exact h.p.lt
 ·exact h.vm.lt
 ·exact h.mm.lt
 ·exact h.fm.lt
 ·exact(h.lm k hu).1.lt
 ·exact(h.fr.lt k hu).2
 ·exact(h.cr.lt k hu).2
 ·exact(h.atr.lt k hu).2
 ·exact(h.nr.lt k hu).2
 ·exact(h.gr.lt k hu).2
 ·obtain⟨j,hj⟩:=List.getElem?_of_mem ha
  have hl:j<s.code.length:=by rw[← h.asl];exact(List.getElem?_eq_some_iff.1 hj).1
  exact((h.ar j a _ hj (List.getElem?_eq_getElem hl)).lt k hu).2
theorem LE.fresh (h:LE C w s V){k:Nat}(hk:w.heap.size≤k):¬ Uses C V k:=fun hu=>by have:=h.lt hu;omega
theorem LE.same (h:LE C w s V)(hb:Below C.B C.w0 w1)(hk:∀ k,Uses C V k→C.B≤k→w1.heap[k]? = w.heap[k]?):LE C w1 s V:=by
 have hc:=h.c
 exact⟨hc,hb,(hk _ (.inr (.inl rfl)) hc.lb).trans h.l,(hk _ (.inr (.inr (.inl rfl))) hc.pb).trans h.p,
  h.vm.of_block (hk _ (.inr (.inr (.inr (.inl rfl)))) hc.vb),h.mm.of_block (hk _ (.inr (.inr (.inr (.inr (.inl rfl))))) hc.mb),h.fm.of_block (hk _ (.inr (.inr (.inr (.inr (.inr (.inl rfl)))))) hc.fb),
  fun b hb=>⟨(h.lm b hb).1.of_block (hk _ (.inr (.inr (.inr (.inr (.inr (.inr (.inl hb))))))) (h.lm b hb).2.1),(h.lm b hb).2⟩,
  zcr h.fr fun k e=>hk k (.inr (.inr (.inr (.inr (.inr (.inr (.inr (.inl e)))))))) (h.fr.lt k e).1,
  zcr h.cr fun k e=>hk k (.inr (.inr (.inr (.inr (.inr (.inr (.inr (.inr (.inl e))))))))) (h.cr.lt k e).1,h.asl,
  fun j a i ha hi=>zcr (h.ar j a i ha hi) fun k e=>hk k (.inr (.inr (.inr (.inr (.inr (.inr (.inr (.inr (.inr (.inr (.inr (.inr ⟨a,List.mem_of_getElem? ha,e⟩)))))))))))) ((h.ar j a i ha hi).lt k e).1,
  zcr h.atr fun k e=>hk k (.inr (.inr (.inr (.inr (.inr (.inr (.inr (.inr (.inr (.inl e)))))))))) (h.atr.lt k e).1,
  zcr h.nr fun k e=>hk k (.inr (.inr (.inr (.inr (.inr (.inr (.inr (.inr (.inr (.inr (.inl e))))))))))) (h.nr.lt k e).1,
  zcr h.gr fun k e=>hk k (.inr (.inr (.inr (.inr (.inr (.inr (.inr (.inr (.inr (.inr (.inr (.inl e)))))))))))) (h.gr.lt k e).1,h.s1,h.s2,h.s3,h.i⟩
theorem LE.alloc (h:LE C w s V)(o:Obj):LE C (w.alloc o) s V :=
 h.same (h.bel.alloc h.bel.size _) fun k hu _=>Below.heap_alloc w o k (h.lt hu)
theorem LE.drewN (h:LE C w s V)(n:Nat):LE C (w.drewN n) s V:=h.same ⟨h.bel.os,h.bel.tape,h.bel.output,h.bel.size,h.bel.block⟩ fun _ _ _=>rfl
theorem LE.drew (h:LE C w s V):LE C w.drew s V:=h.same ⟨h.bel.os,h.bel.tape,h.bel.output,h.bel.size,h.bel.block⟩ fun _ _ _=>rfl
theorem LE.far (h:LE C w s V){p:Addr}(hp:¬ Uses C V p.block)(u:Value):LE C (w.setCell p u) s V :=
 h.same (h.bel.setCell (by
  rcases Nat.lt_or_ge p.block C.B with hl | hl
  ·exact(hp (.inl hl)).elim
  ·exact hl) u) fun k hu _=>Below.heap_setCell w p u k (by rintro rfl;exact hp hu)
theorem LE.chg {ts:List TypeId}{bs:List Nat}(h:LE C w s V)(hc:Chg C.B ts bs w w1)(hk:∀ k,Uses C V k→k ∉ bs)(ht:ts=[]:=by rfl):LE C w1 s V:=by
 subst ht
 refine h.same (h.bel.trans (hc.below h.bel.size)) fun k hu _=>?_
 have hl:=h.lt hu
 have e:w.heap[k]? = some w.heap[k]:=Array.getElem?_eq_getElem hl
 rw[e]
 exact hc.block k _ e (.inr ⟨by simp,hk k hu⟩)
theorem LE.cells (h:LE C w s V):(∀ i,w.cell? ⟨C.lb,i,none⟩=#[.pointer (some ⟨C.pb,0,none⟩),.pointer (some ⟨C.tb,0,none⟩),.map (some C.vb),.map (some C.mb),.map (some C.fb),.map V.lm,.int .i64 s.fn][i]?) ∧
  (∀ i,w.cell? ⟨C.pb,i,none⟩=#[.pointer (some ⟨C.tb,0,none⟩),.int .i64 s.nv,.int .i64 s.nm,V.fsv,V.cv,V.av,V.nv,V.gv,.int .i64 0][i]?)∧(∀ i,w.frozen? ⟨C.lb,i,none⟩=false)∧(∀ i,w.frozen? ⟨C.pb,i,none⟩=false)∧C.lb<w.heap.size∧C.pb<w.heap.size∧C.lb≠C.pb :=
 ⟨h.l.cell,h.p.cell,h.l.frozen,h.p.frozen,h.l.lt,h.p.lt,h.l.ne_ h.p (by decide)⟩
end
def zci {α : Type}(C:LC)(w:World)(r:Except Flt α)(K:α → Value→World→Prop)(e:Ending)(w':World):Prop :=
 (∃ a v,r=.ok a∧e=.returned v∧K a v w') ∨
 (∃ f b,r=.error f∧e=.panicked (zfm b)∧za1 w' b f∧w.heap.size≤b∧Below C.B w w')
theorem zci.fault {α : Type}{C:LC}{w w1:World}{r:Except Flt α}{K:α → Value→World→Prop}{f:Flt}{b:Nat}(hM:r=.error f)(hf:za1 w1 b f)(hb:w.heap.size≤b)(hc:Below C.B w w1):zci C w r K (.panicked (zfm b)) w1 :=
 .inr ⟨f,b,hM,rfl,hf,hb,hc⟩
theorem zdj (k p:Int)(w:World):Calls Tryz.prog 115 #[.int .i64 k,.int .i64 p] w fun e w' =>
  e=.panicked (zfm w.heap.size)∧w.alloc (.cells #[.int .i64 k,.int .i64 p] 323)=w':=by
 go_enter Tryz.func115,Tryz.ntmps115
 go_wp2
 exact⟨rfl,rfl,rfl⟩
theorem zh6 {w:World}{b:Nat}{m:NMap}(h:NM w b m){x:ByteArray}(hx:nok x) :
  (Instr.lookup 212 (.map (some b)) (.string x) true).run Tryz.prog w=.ok (match mget m x with | some u=>.tuple #[.int .i64 u,.bool true] | none=>.tuple #[.int .i64 0,.bool false]) w:=by
 have:=h.lookup (t:=212) (e:=3) nkey Tryz.underlying212 (z:=.int .i64 0) (Tryz.zeroValue3 w) hx true
 rw[this]
 cases mget m x <;> rfl
end
section
open Go.RowKit Go.Maps
def zcm (m:NMap)(x:ByteArray):Int:=match mget m x with | some k=>(k:Int) | none=>-1
theorem zbo (w:World)(b:Nat)(m:NMap)(x:ByteArray)(hm:NM w b m)(hx:nok x) :
  Calls Tryz.prog 114 #[.map (some b),.string x] w fun e w'=>e=.returned (.int .i64 (zcm m x))∧w=w':=by
 have hl:=zh6 hm hx
 unfold zcm
 cases hg:mget m x
 all_goals
  rw[hg]at hl
  simp only at hl
  clear hm hg
  go_enter Tryz.func114,Tryz.ntmps114
  go_wp2
  go_ret
  exact⟨rfl,rfl⟩
def noneOf (s:Lo)(x:ByteArray)(k:Nat):Prop:=(0<k→mget s.vars x=none)∧(1<k→mget s.muts x=none)∧(2<k→mget s.funs x=none)
def KnownRel (s:Lo)(x:ByteArray)(n:Nat)(i:Value):Prop:=∃ k:Nat,n=3-k∧k≤3∧i=.int .i64 (k:Int)∧noneOf s x k
theorem zfs (C:LC)(w:World)(s:Lo)(V:LV)(x:ByteArray)(h:LE C w s V)(hx:nok x) :
  Calls Tryz.prog 160 #[.pointer (some ⟨C.lb,0,none⟩),.string x] w fun e w'=>e=.returned (.bool (s.known x))∧LE C w' s V∧Chg 0 [] [] w w':=by
 obtain⟨hl,hp,hfl,hfp,hll,hlp,hne⟩:=h.cells
 have H:=zH h
 clear h hp hfl hfp hlp hne
 go_enter Tryz.func160,Tryz.ntmps160
 go_wp2_with fail
 go_region
 go_wp2_with fail
 refine zbi (fun W=>LE C W s V∧Blk W w.heap.size 212 #[.map (some C.vb),.map (some C.mb),.map (some C.fb)]∧Chg 0 [] [] w W) ⟨(H.out.drew).alloc _,Blk.newAt rfl,((Chg.refl _ _ _ _).drew).alloc _⟩ ?_
 rintro W ⟨hL,hb,hC⟩
 have hbc:=hb.cell
 have HL:=zH hL
 have HC:=zH hC
 clear hL hb hC hl
 go_loopg [23] 3 (fun n i wr=>KnownRel s x n i∧wr=W)
 case atStart=>exact⟨⟨0,rfl,by omega,rfl,by simp[noneOf]⟩,rfl⟩
 case round =>
  obtain⟨⟨k,hk,hk3,rfl,hn⟩,rfl⟩:=hrel
  have HN:=zH hn
  clear hn
  by_cases k0:k=0
  ·subst k0
   have hlk:=zh6 (HL.out.vm) hx
   cases hg:mget s.vars x
   ·rw[hg]at hlk
    simp only at hlk
    have HG:=zH hg
    clear hg
    go_wp2_with fail
    go_roundg (3-1)
    case measure=>omega
    case rel=>exact⟨⟨1,rfl,by omega,rfl,⟨fun _=>by first | exact HG.out | exact HN.out.1 (by omega),fun _=>by first | exact HG.out | exact HN.out.2.1 (by omega) | omega,fun _=>by first | exact HG.out | exact HN.out.2.2 (by omega) | omega⟩⟩,rfl⟩
   ·rw[hg]at hlk
    simp only at hlk
    have HK:=zH (show s.known x=true by unfold Lo.known;rw[hg];simp)
    clear hg
    go_wp2_with fail
    go_ret
    exact⟨zdr HK.out.symm,HL.out,HC.out⟩
  by_cases k1:k=1
  ·subst k1
   have hlk:=zh6 (HL.out.mm) hx
   cases hg:mget s.muts x
   ·rw[hg]at hlk
    simp only at hlk
    have HG:=zH hg
    clear hg
    go_wp2_with fail
    go_roundg (3-2)
    case measure=>omega
    case rel=>exact⟨⟨2,rfl,by omega,rfl,⟨fun _=>by first | exact HG.out | exact HN.out.1 (by omega),fun _=>by first | exact HG.out | exact HN.out.2.1 (by omega) | omega,fun _=>by first | exact HG.out | exact HN.out.2.2 (by omega) | omega⟩⟩,rfl⟩
   ·rw[hg]at hlk
    simp only at hlk
    have HK:=zH (show s.known x=true by unfold Lo.known;rw[hg];simp)
    clear hg
    go_wp2_with fail
    go_ret
    exact⟨zdr HK.out.symm,HL.out,HC.out⟩
  by_cases k2:k=2
  ·subst k2
   have hlk:=zh6 (HL.out.fm) hx
   cases hg:mget s.funs x
   ·rw[hg]at hlk
    simp only at hlk
    have HG:=zH hg
    clear hg
    go_wp2_with fail
    go_roundg (3-3)
    case measure=>omega
    case rel=>exact⟨⟨3,rfl,by omega,rfl,⟨fun _=>by first | exact HG.out | exact HN.out.1 (by omega),fun _=>by first | exact HG.out | exact HN.out.2.1 (by omega) | omega,fun _=>by first | exact HG.out | exact HN.out.2.2 (by omega) | omega⟩⟩,rfl⟩
   ·rw[hg]at hlk
    simp only at hlk
    have HK:=zH (show s.known x=true by unfold Lo.known;rw[hg];simp)
    clear hg
    go_wp2_with fail
    go_ret
    exact⟨zdr HK.out.symm,HL.out,HC.out⟩
  obtain rfl:k=3:=by omega
  have HK:=zH (show s.known x=false by unfold Lo.known;rw[HN.out.1 (by omega),HN.out.2.1 (by omega),HN.out.2.2 (by omega)];rfl)
  go_wp2_with fail
  go_ret
  exact⟨zdr HK.out.symm,HL.out,HC.out⟩
end
section
open Go.RowKit Go.Maps
attribute [local go_sem] zaq
def zjh (C:LC)(w:World)(V:LV)(b:Nat)(M:Except Flt (Nat×Lo)):Ending→World→Prop :=
 zci C w M fun p v w'=>v=.int .i64 p.1∧LE C w' p.2 V∧Chg C.B [] [b] w w'
theorem Chg.any {B B':Nat}{ts:List TypeId}{bs:List Nat}{w w1:World}(h:Chg B' ts [] w w1)(ht:ts=[]:=by rfl):Chg B [] bs w w1:=by
 subst ht
 exact⟨h.os,h.tape,h.output,h.size,fun k o hk _=>h.block k o hk (.inr ⟨by simp,by simp⟩)⟩
theorem LE.locs {C:LC}{w w1:World}{s:Lo}{V:LV}{b:Nat}{m:NMap}(h:LE C w s V)(hV:V.lm=some b)(hm:NM w1 b m)(hg:w.grownBy w1 (some b)):LE C w1 { s with locs:=m } V:=by
 have hb:=(h.lm b hV).2
 have hbel:Below C.B C.w0 w1:=h.bel.grown hg h.bel.size (fun k e=>by cases e;exact hb.1)
 have hk:∀ k,Uses C V k→k≠b→w1.heap[k]? = w.heap[k]? := fun k hu hne=>hg.block k (h.lt hu) (by intro e;injection e with e;exact hne e)
 have hcell:∀ {g:Nat} {t:TypeId} {cs:Array Value},Blk w g t cs→g≠b:=fun hc e=>zaf.cellFar (h.lm b hV).1 hc e.symm
 have hrow:∀ {e size n:Nat} {v:Value} {ys:List Value},w.ownsRow C.B e size v n ys→w1.ownsRow C.B e size v n ys:=by
  intro e size n v ys hr
  refine zcr hr fun k e=>hg.block k (hr.lt k e).2 ?_
  intro e'
  injection e' with e'
  subst e'
  rcases hr.2 with⟨rfl,_⟩ | ⟨g,cap,cur,rfl,_,hh,_⟩
  ·simp[Value.ownBlock]at e
  ·have:g=k:=by simpa [Value.ownBlock] using e
   subst this
   exact hcell (cs:=cur) hh rfl
 exact⟨h.c,hbel,(hk _ (.inr (.inl rfl)) (hcell h.l)).trans h.l,(hk _ (.inr (.inr (.inl rfl))) (hcell h.p)).trans h.p,
  h.vm.of_block (hk _ (.inr (.inr (.inr (.inl rfl)))) hb.2.1.symm),h.mm.of_block (hk _ (.inr (.inr (.inr (.inr (.inl rfl))))) hb.2.2.1.symm),h.fm.of_block (hk _ (.inr (.inr (.inr (.inr (.inr (.inl rfl)))))) hb.2.2.2.symm),
  fun b' hb'=>by
   rw[hV]at hb'
   injection hb' with hb'
   subst hb'
   exact⟨hm,hb⟩,
  hrow h.fr,hrow h.cr,h.asl,fun j a i ha hi=>hrow (h.ar j a i ha hi),hrow h.atr,hrow h.nr,hrow h.gr,h.s1,h.s2,h.s3,⟨h.i.fl,h.i.f5,h.i.al,h.i.nl,h.i.gl,h.i.fok⟩⟩
theorem zuc (C:LC)(w:World)(s:Lo)(V:LV)(n:Nm)(b:Nat)(hV:V.lm=some b)(h:LE C w s V)(hx:nok n.text)(h1:s.known n.text=true) :
  Calls Tryz.prog 297 #[.pointer (some ⟨C.lb,0,none⟩),zaq n] w (zjh C w V b (zbq s n)):=by
 have HK:=zH h1
 have HM:=zH (show zbq s n=.error ⟨9,n.at_⟩ by unfold zbq;rw[if_pos h1])
 clear h1
 obtain⟨hl,hp,hfl,hfp,hll,hlp,hne⟩:=h.cells
 have H:=zH h
 have HX:=zH hx
 clear h hx hp hfl hfp hlp hne hl hll
 go_enter Tryz.func297,Tryz.ntmps297
 go_wp2_with fail
 refine(zfs C _ s V n.text (H.out.alloc _) HX.out).mono ?_
 rintro e w1 ⟨rfl,hL1,hC1⟩
 rw[HK.out]
 have hb1:=(Blk.newAt (w:=w) (t:=220) (cs:=#[.string n.text,.int .i64 n.at_,.bool n.num,.int .i64 n.n]) rfl).chg hC1 (by simp) (by simp)
 have HC:=zH (((Chg.refl 0 [] [] w).alloc _).trans hC1)
 obtain⟨hl,_,_,_,hll,_⟩:=hL1.cells
 rw[hV]at hl
 have hbc:=hb1.cell
 have hbl:=hb1.lt
 have HL:=zH hL1
 have HB:=zH hb1
 clear hL1 hC1 hb1
 go_wp2_with fail
 refine(zdj _ _ _).mono ?_
 rintro e w4 ⟨rfl,rfl⟩
 exact⟨rfl,.fault HM.out (za1.new rfl) HC.out.size (((Chg.any (B:=C.B) (bs:=[]) HC.out).below H.out.bel.size).alloc (Nat.le_trans H.out.bel.size HC.out.size) _)⟩
theorem zvm (C:LC)(w:World)(s:Lo)(V:LV)(n:Nm)(b:Nat)(hV:V.lm=some b)(h:LE C w s V)(hx:nok n.text)(h1:s.known n.text=false)(k:Nat)(h2:mget s.locs n.text=some k) :
  Calls Tryz.prog 297 #[.pointer (some ⟨C.lb,0,none⟩),zaq n] w (zjh C w V b (zbq s n)):=by
 have HK:=zH h1
 have HM:=zH (show zbq s n=.ok (k,s) by unfold zbq;rw[if_neg (by rw[h1];simp),h2])
 have H2:=zH h2
 clear h1 h2
 obtain⟨hl,hp,hfl,hfp,hll,hlp,hne⟩:=h.cells
 have H:=zH h
 have HX:=zH hx
 clear h hx hp hfl hfp hlp hne hl hll
 go_enter Tryz.func297,Tryz.ntmps297
 go_wp2_with fail
 refine(zfs C _ s V n.text (H.out.alloc _) HX.out).mono ?_
 rintro e w1 ⟨rfl,hL1,hC1⟩
 rw[HK.out]
 have hb1:=(Blk.newAt (w:=w) (t:=220) (cs:=#[.string n.text,.int .i64 n.at_,.bool n.num,.int .i64 n.n]) rfl).chg hC1 (by simp) (by simp)
 have HC:=zH (((Chg.refl 0 [] [] w).alloc _).trans hC1)
 obtain⟨hl,_,_,_,hll,_⟩:=hL1.cells
 rw[hV]at hl
 have hbc:=hb1.cell
 have hbl:=hb1.lt
 have HL:=zH hL1
 have HB:=zH hb1
 clear hL1 hC1 hb1
 go_wp2_with fail
 have hlook:∀ m,(Instr.lookup 212 (.map (some b)) (.string n.text) true).run Tryz.prog (w1.drewN m)=.ok (.tuple #[.int .i64 k,.bool true]) (w1.drewN m):=by
  intro m
  have:=zh6 (((HL.out.drewN m).lm b hV).1) HX.out
  rw[H2.out]at this
  exact this
 go_quiet (fail)
 clear hlook
 go_wp2_with fail
 go_ret
 exact .inl ⟨(k,s),_,HM.out,rfl,rfl,HL.out.drewN _,(Chg.any HC.out).drewN _⟩
theorem zv8 (C:LC)(w:World)(s:Lo)(V:LV)(n:Nm)(b:Nat)(hV:V.lm=some b)(h:LE C w s V)(hx:nok n.text)(h1:s.known n.text=false)(h2:mget s.locs n.text=none)(h3:s.locs.length=6) :
  Calls Tryz.prog 297 #[.pointer (some ⟨C.lb,0,none⟩),zaq n] w (zjh C w V b (zbq s n)):=by
 have HK:=zH h1
 have HM:=zH (show zbq s n=.error ⟨8,n.at_⟩ by unfold zbq;rw[if_neg (by rw[h1];simp),h2];simp only;rw[if_pos h3])
 have H2:=zH h2
 have H3:=zH h3
 clear h1 h2 h3
 obtain⟨hl,hp,hfl,hfp,hll,hlp,hne⟩:=h.cells
 have H:=zH h
 have HX:=zH hx
 clear h hx hp hfl hfp hlp hne hl hll
 go_enter Tryz.func297,Tryz.ntmps297
 go_wp2_with fail
 refine(zfs C _ s V n.text (H.out.alloc _) HX.out).mono ?_
 rintro e w1 ⟨rfl,hL1,hC1⟩
 rw[HK.out]
 have hb1:=(Blk.newAt (w:=w) (t:=220) (cs:=#[.string n.text,.int .i64 n.at_,.bool n.num,.int .i64 n.n]) rfl).chg hC1 (by simp) (by simp)
 have HC:=zH (((Chg.refl 0 [] [] w).alloc _).trans hC1)
 obtain⟨hl,_,_,_,hll,_⟩:=hL1.cells
 rw[hV]at hl
 have hbc:=hb1.cell
 have hbl:=hb1.lt
 have HL:=zH hL1
 have HB:=zH hb1
 clear hL1 hC1 hb1
 go_wp2_with fail
 have hlook:∀ m,(Instr.lookup 212 (.map (some b)) (.string n.text) true).run Tryz.prog (w1.drewN m)=.ok (.tuple #[.int .i64 0,.bool false]) (w1.drewN m):=by
  intro m
  have:=zh6 (((HL.out.drewN m).lm b hV).1) HX.out
  rw[H2.out]at this
  exact this
 have hlen:∀ m,(Builtin.len_ #[212] 3 #[.map (some b)]).run Tryz.prog (w1.drewN m)=.ok (.int .i64 6) (w1.drewN m):=by
  intro m
  have:=(((HL.out.drewN m).lm b hV).1).len (t:=212) (e:=3) (k:=9) Tryz.underlying212 3
  rw[H3.out]at this
  exact this
 go_quiet (fail)
 clear hlook
 go_wp2_with fail
 refine(zdj _ _ _).mono ?_
 rintro e w4 ⟨rfl,rfl⟩
 exact⟨rfl,.fault HM.out (za1.new rfl) HC.out.size (((Chg.any (B:=C.B) (bs:=[]) (HC.out.drewN _)).below H.out.bel.size).alloc (Nat.le_trans H.out.bel.size HC.out.size) _)⟩
theorem zuv (C:LC)(w:World)(s:Lo)(V:LV)(n:Nm)(b:Nat)(hV:V.lm=some b)(h:LE C w s V)(hx:nok n.text)(h1:s.known n.text=false)(h2:mget s.locs n.text=none)(h3:s.locs.length≠6) :
  Calls Tryz.prog 297 #[.pointer (some ⟨C.lb,0,none⟩),zaq n] w (zjh C w V b (zbq s n)):=by
 have HK:=zH h1
 have HM:=zH (show zbq s n=.ok (s.locs.length,{ s with locs:=mput s.locs n.text s.locs.length }) by unfold zbq;rw[if_neg (by rw[h1];simp),h2];simp only;rw[if_neg h3])
 have H2:=zH h2
 have h6:((s.locs.length:Int)==6)=false:=zai (by omega)
 clear h1 h2 h3
 obtain⟨hl,hp,hfl,hfp,hll,hlp,hne⟩:=h.cells
 have H:=zH h
 have HX:=zH hx
 clear h hx hp hfl hfp hlp hne hl hll
 go_enter Tryz.func297,Tryz.ntmps297
 go_wp2_with fail
 refine(zfs C _ s V n.text (H.out.alloc _) HX.out).mono ?_
 rintro e w1 ⟨rfl,hL1,hC1⟩
 rw[HK.out]
 have hb1:=(Blk.newAt (w:=w) (t:=220) (cs:=#[.string n.text,.int .i64 n.at_,.bool n.num,.int .i64 n.n]) rfl).chg hC1 (by simp) (by simp)
 have HC:=zH (((Chg.refl 0 [] [] w).alloc _).trans hC1)
 obtain⟨hl,_,_,_,hll,_⟩:=hL1.cells
 rw[hV]at hl
 have hbc:=hb1.cell
 have hbl:=hb1.lt
 have HL:=zH hL1
 have HB:=zH hb1
 clear hL1 hC1 hb1
 go_wp2_with fail
 have hlook:∀ m,(Instr.lookup 212 (.map (some b)) (.string n.text) true).run Tryz.prog (w1.drewN m)=.ok (.tuple #[.int .i64 0,.bool false]) (w1.drewN m):=by
  intro m
  have:=zh6 (((HL.out.drewN m).lm b hV).1) HX.out
  rw[H2.out]at this
  exact this
 have hlen:∀ m,(Builtin.len_ #[212] 3 #[.map (some b)]).run Tryz.prog (w1.drewN m)=.ok (.int .i64 s.locs.length) (w1.drewN m):=fun m =>
  (((HL.out.drewN m).lm b hV).1).len (t:=212) (e:=3) (k:=9) Tryz.underlying212 3
 go_quiet (fail)
 clear hlook
 go_wp2_with fail
 refine zbi (fun W=>LE C W s V∧Blk W w.heap.size 220 #[.string n.text,.int .i64 n.at_,.bool n.num,.int .i64 n.n]∧Chg C.B [] [b] w W) ⟨HL.out.drewN _,HB.out.drewN _,(Chg.any HC.out).drewN _⟩ ?_
 rintro W ⟨hL,hB,hC⟩
 clear hl hll hbc hbl hlen
 obtain⟨hl,_,_,_,hll,_⟩:=hL.cells
 rw[hV]at hl
 have hbc:=hB.cell
 have hbl:=hB.lt
 have HL2:=zH hL
 have HC2:=zH hC
 clear hL hB hC
 go_still_tail 7,(by kernel_rfl)
 change wpList _ _ _ _ _ W.drew
 refine zue rfl _ _ _ _ _ _ rfl nkey Tryz.underlying212 b n.text s.locs.length W.drew s.locs ((HL2.out.drew).lm b hV).1 rfl rfl rfl HX.out ?_
 intro w2 hm2 hg2 hz2
 have HF:=zH (show zjh C w V b (zbq s n) (.returned (.int .i64 s.locs.length)) w2 from .inl ⟨_,_,HM.out,rfl,rfl,(HL2.out.drew).locs hV hm2 hg2,HC2.out.drew.grown hg2 (fun k e=>by
  injection e with e
  subst e
  exact .inr ⟨(HL2.out.lm b hV).2.1,.inl (by simp)⟩)⟩)
 clear hm2 hg2 hz2 hl hll hbc hbl
 go_wp2_with fail
 go_ret
 exact HF.out
theorem zhr (C:LC)(w:World)(s:Lo)(V:LV)(n:Nm)(b:Nat)(hV:V.lm=some b)(h:LE C w s V)(hx:nok n.text) :
  Calls Tryz.prog 297 #[.pointer (some ⟨C.lb,0,none⟩),zaq n] w (zjh C w V b (zbq s n)):=by
 cases h1:s.known n.text
 ·cases h2:mget s.locs n.text with
  | some k=>exact zvm C w s V n b hV h hx h1 k h2
  | none =>
   by_cases h3:s.locs.length=6
   ·exact zv8 C w s V n b hV h hx h1 h2 h3
   ·exact zuv C w s V n b hV h hx h1 h2 h3
 ·exact zuc C w s V n b hV h hx h1
def zmw (C:LC)(w:World)(V:LV)(b:Nat)(M:Except Flt (Ar×Lo)):Ending→World→Prop :=
 zci C w M fun p v w'=>v=arV p.1∧LE C w' p.2 V∧Chg C.B [] [b] w w'
theorem zea (C:LC)(w:World)(s:Lo)(V:LV)(n:Nm)(b:Nat)(hV:V.lm=some b)(h:LE C w s V)(hx:nok n.text) :
  Calls Tryz.prog 296 #[.pointer (some ⟨C.lb,0,none⟩),zaq n] w (zmw C w V b (argM s n)):=by
 have H:=zH h
 cases hn:n.num
 ·have HM:=zH (show argM s n=zab (zbq s n) fun p=>.ok ({ n:=p.1 },p.2) by unfold argM;rw[if_neg (by rw[hn];simp)])
  go_enter Tryz.func296,Tryz.ntmps296
  clear h
  go_wp2_with fail
  rw[show(Value.agg #[.string n.text,.int .i64 n.at_,.bool false,.int .i64 n.n])=zaq n by unfold zaq;rw[hn]]
  refine(zhr C _ s V n b hV ((H.out.alloc _).alloc _) hx).mono ?_
  have hbl:=(H.out.lm b hV).1.lt
  rintro e w1 (⟨p,v,hr,rfl,rfl,hL,hch⟩ | ⟨f,g,hr,rfl,hfb,hle,hch⟩)
  ·have hcb:=(Blk.newAt (w:=w.alloc (.cells #[.string n.text,.int .i64 n.at_,.bool false,.int .i64 n.n] 220)) (g:=w.heap.size+1) (t:=306) (cs:=#[.bool false,.int .i64 0]) (by simp)).chg hch (by simp) (by simp;omega)
   have hcc:=hcb.cell
   have hcf:=hcb.frozen
   have HF:=zH (show zmw C w V b (argM s n) (.returned (arV { n:=p.1 })) ((w1.setCell ⟨w.heap.size+1,0,none⟩ (.bool false)).setCell ⟨w.heap.size+1,1,none⟩ (.int .i64 p.1))from
    .inl ⟨({ n:=p.1 },p.2),_,HM.out.trans (by rw[hr];rfl),rfl,rfl,(hL.far (H.out.fresh (Nat.le_succ _) ∘ id) _).far (H.out.fresh (Nat.le_succ _) ∘ id) _,(((((Chg.refl C.B [] [b] w).alloc _).alloc _).trans hch).setNew (Nat.le_succ _) _).setNew (Nat.le_succ _) _⟩)
   clear hr hL hch hcb
   go_wp2_with fail
   refine bodyPost_end (v:=arV { n:=p.1 }) (by simp[results,Tryz.results296,go_sem,arV,hcc]) rfl HF.out
  ·exact⟨rfl,.fault (HM.out.trans (by rw[hr];rfl)) hfb (by simp at hle;omega) ((((Below.refl _ _).alloc H.out.bel.size _).alloc (by have:=H.out.bel.size;simp;omega) _).trans hch)⟩
 ·have HM:=zH (show argM s n=.ok ({ c:=true,n:=n.n },s) by unfold argM;rw[if_pos hn])
  have HF:=zH (show ∀ W,LE C W s V→Chg C.B [] [b] w W→zmw C w V b (argM s n) (.returned (arV { c:=true,n:=n.n })) W from fun W h1 h2=>.inl ⟨_,_,HM.out,rfl,rfl,h1,h2⟩)
  go_enter Tryz.func296,Tryz.ntmps296
  clear h
  go_wp2_with fail
  refine bodyPost_end (v:=arV { c:=true,n:=n.n }) (by simp[results,Tryz.results296,go_sem,arV]) rfl (HF.out _ ?_ ?_)
  ·first | exact(H.out.alloc _).alloc _ | trace_state
  ·first | exact((Chg.refl _ _ _ _).alloc _).alloc _ | trace_state
end
section
open Go.RowKit Go.Maps
attribute [local go_sem] zaq
theorem info_ins:(Tryz.prog.info? 309).map (fun i=>(i.zero,i.size,i.bytes))=some (some (.agg #[.int .i64 0,.int .i64 0,.int .i64 0,.int .i64 0,.bool false,.int .i64 0,.bool false,.int .i64 0,.int .i64 0,.int .i64 0,.int .i64 0,.int .i64 0,.slice none 0 0,.int .i64 0]),14,128):=by kernel_rfl
theorem tyIns:zbl Tryz.prog 209 309 14 128:=zbl.mk' Tryz.underlying209 info_ins rfl (by omega) (by omega)
theorem info_fu:(Tryz.prog.info? 228).map (fun i=>(i.zero,i.size,i.bytes))=some (some (.agg #[.string ByteArray.empty,.int .i64 0,.int .i64 0,.int .i64 0,.int .i64 0]),5,48):=by kernel_rfl
theorem tyFu:zbl Tryz.prog 208 228 5 48:=zbl.mk' Tryz.underlying208 info_fu rfl (by omega) (by omega)
theorem info_ar:(Tryz.prog.info? 306).map (fun i=>(i.zero,i.size,i.bytes))=some (some (.agg #[.bool false,.int .i64 0]),2,16):=by kernel_rfl
theorem tyAr:zbl Tryz.prog 307 306 2 16:=zbl.mk' Tryz.underlying307 info_ar rfl (by omega) (by omega)
def insV (i:In)(a:Value):Value:=.agg (zas i a).toArray
theorem zyc {ags:List Value}{code:List In}(h:ags.length=code.length)(a:Value)(i:In):zcx (ags++[a]) (code++[i])=zcx ags code++zas i a:=by
 unfold zcx
 rw[List.zipWith_append (h:=h)]
 simp
theorem zba {w:World}{B e size n k:Nat}{v:Value}{ys:List Value}(h:w.ownsRow B e size v n ys)(hk:v.ownBlock=some k):∃ cs,Blk w k e cs:=by
 rcases h.2 with⟨rfl,_⟩ | ⟨g,cap,cur,rfl,_,hh,_⟩
 ·simp[Value.ownBlock]at hk
 ·have:g=k:=by simpa [Value.ownBlock] using hk
  subst this
  exact⟨_,hh⟩
theorem row_neq {w:World}{B B' e e' size size' n n' k k':Nat}{v v':Value}{ys ys':List Value}(h:w.ownsRow B e size v n ys)(h':w.ownsRow B' e' size' v' n' ys')(hne:e≠e')(hk:v.ownBlock=some k)(hk':v'.ownBlock=some k'):k≠k':=by
 obtain⟨cs,h1⟩:=zba h hk
 obtain⟨cs',h2⟩:=zba h' hk'
 exact h1.ne_ h2 hne
theorem LE.grown {C:LC}{w w3:World}{s:Lo}{V:LV}{t size n:Nat}{v:Value}{ys:List Value}(h:LE C w s V)(hown:w.ownsRow C.B t size v n ys)
  (hk:∀ k,k<w.heap.size→k≠C.pb→some k≠v.ownBlock→w3.heap[k]? = w.heap[k]?) (hl:t≠214) :
  (Blk w3 C.lb 214 #[.pointer (some ⟨C.pb,0,none⟩),.pointer (some ⟨C.tb,0,none⟩),.map (some C.vb),.map (some C.mb),.map (some C.fb),.map V.lm,.int .i64 s.fn]) ∧
  NM w3 C.vb s.vars∧NM w3 C.mb s.muts∧NM w3 C.fb s.funs∧(∀ b,V.lm=some b→NM w3 b s.locs∧C.B≤b∧b≠C.vb∧b≠C.mb∧b≠C.fb) ∧
  (∀ {B' e' size' n':Nat} {v':Value} {ys':List Value},w.ownsRow B' e' size' v' n' ys'→(e'≠t∨Sep v v')→e'≠211→w3.ownsRow B' e' size' v' n' ys'):=by
 have hcell:∀ {g:Nat} {t':TypeId} {cs:Array Value},Blk w g t' cs→t'≠t→some g≠v.ownBlock:=fun hc hne e=>by
  obtain⟨cs',h1⟩:=zba hown e.symm
  exact hc.ne_ h1 hne rfl
 have hmap:∀ {b:Nat} {m:NMap},NM w b m→NM w3 b m:=fun hm=>hm.of_block (hk _ hm.lt (hm.cellFar h.p) (fun e=>by
  obtain⟨cs',h1⟩:=zba hown e.symm
  exact hm.cellFar h1 rfl))
 refine⟨(hk _ h.l.lt (h.l.ne_ h.p (by decide)) (hcell h.l hl.symm)).trans h.l,hmap h.vm,hmap h.mm,hmap h.fm,fun b hb=>⟨hmap (h.lm b hb).1,(h.lm b hb).2⟩,?_⟩
 intro B' e' size' n' v' ys' hr hne hp
 refine zcr hr fun k e=>hk k (hr.lt k e).2 ?_ ?_
 ·rintro rfl
  obtain⟨cs,h1⟩:=zba hr e
  exact h1.ne_ h.p hp rfl
 ·intro e2
  rcases hne with hne | hne
  ·exact row_neq hr hown hne e e2.symm rfl
  ·exact hne k e2.symm e
theorem zjb {v v':Value}{g n m:Nat}(hg:v.ownBlock=some g∨g=m)(hs:Sep v v')(hlt:∀ k,v'.ownBlock=some k→k<m)(c:Nat):Sep (.slice (some ⟨g,0,none⟩) n c) v':=by
 intro k h1 h2
 have e:g=k:=by simpa [Value.ownBlock] using h1
 subst e
 rcases hg with hg | hg
 ·exact hs g hg h2
 ·have:=hlt _ h2;omega
theorem zvz {C:LC}{w1 w2:World}{s:Lo}{V:LV}{i:In}{a:Value}{g cap:Nat}{o:Obj}(h1:LE C w1 s V)(ha:zhe w1 C.B a i.args)
  (hrow:w2.ownsRow C.B 309 14 (.slice (some ⟨g,0,none⟩) (s.code.length+1) cap) (s.code.length+1) (zcx V.ags s.code++zas { i with fn:=s.fn } a)) (hg:(w1.drew.alloc o).grownBy w2 V.cv.ownBlock) :
  ∃ V',LE C (w2.setCell ⟨C.pb,4,none⟩ (.slice (some ⟨g,0,none⟩) (s.code.length+1) cap)) (s.emit i) V'∧V'.lm=V.lm:=by
 have hd:=(h1.drew).alloc o
 have hb2:Below C.B C.w0 w2:=hd.bel.grown hg hd.bel.size fun k e=>(hd.cr.lt k e).1
 have hp2:Blk w2 C.pb 211 _:=hd.p.append hd.cr hg (by decide)
 obtain⟨x1,x2,x3,x4,x5,x6⟩:=hd.grown (w3:=w2.setCell ⟨C.pb,4,none⟩ (.slice (some ⟨g,0,none⟩) (s.code.length+1) cap)) hd.cr (fun k hk h1 h2=>(Below.heap_setCell _ _ _ _ h1).trans (hg.block k hk h2)) (by decide)
 refine⟨{ V with cv:=.slice (some ⟨g,0,none⟩) (s.code.length+1) cap,ags:=V.ags++[a] },⟨hd.c,hb2.setCell hd.c.pb _,x1,(hp2.set_ 4 _).cast (by simp[Lo.emit]),x2,x3,x4,x5,x6 hd.fr (.inl (by decide)) (by decide),?_,by simp[Lo.emit,hd.asl],?_,
  x6 hd.atr (.inl (by decide)) (by decide),x6 hd.nr (.inl (by decide)) (by decide),x6 hd.gr (.inl (by decide)) (by decide),hd.s1,hd.s2,hd.s3,⟨hd.i.fl,hd.i.f5,hd.i.al,hd.i.nl,hd.i.gl,hd.i.fok⟩⟩,rfl⟩
 ·show World.ownsRow _ C.B _ 14 _ (s.code++[_]).length (zcx (V.ags++[a]) (s.code++[_]))
  rw[zyc hd.asl,List.length_append]
  exact zaj hrow hp2 (by decide) _ _
 ·intro k b j hk hj
  have hj':(s.code++[{ i with fn:=s.fn }])[k]? = some j:=hj
  have hk':(V.ags++[a])[k]? = some b:=hk
  rcases Nat.lt_or_ge k s.code.length with hlt | hge
  ·rw[List.getElem?_append_left hlt]at hj'
   rw[List.getElem?_append_left (by rw[hd.asl];exact hlt)]at hk'
   exact x6 (hd.ar k b j hk' hj') (.inl (by decide)) (by decide)
  ·rw[List.getElem?_append_right hge]at hj'
   rw[List.getElem?_append_right (by rw[hd.asl];exact hge),hd.asl]at hk'
   obtain⟨m,hm⟩:∃ m,m=k-s.code.length:=⟨_,rfl⟩
   rw[← hm]at hj' hk'
   cases m with
   | zero =>
    simp at hj' hk'
    subst hj' hk'
    exact x6 (show World.ownsRow (w1.drew.alloc o) _ _ _ _ _ _ from(za2 ha).alloc o) (.inl (by decide)) (by decide)
   | succ m=>simp at hj'
attribute [local go_sem] insV zas
def EmitPost (C:LC)(V:LV)(s:Lo)(i:In)(e:Ending)(w':World):Prop:=e=.returned (.int .i64 s.code.length)∧∃ V',LE C w' (s.emit i) V'∧V'.lm=V.lm
theorem zde (C:LC)(w:World)(s:Lo)(V:LV)(i:In)(a:Value)(h:LE C w s V)(hc:s.code.length<100000)(ha:zhe w C.B a i.args) :
  Calls Tryz.prog 162 #[.pointer (some ⟨C.lb,0,none⟩),insV i a] w (EmitPost C V s i):=by
 obtain⟨hl,hp,hfl,hfp,hll,hlp,hne⟩:=h.cells
 obtain⟨aa,ac,hav⟩:=zat ha
 subst hav
 have H:=zH h
 have HA:=zH ha
 clear h ha hfl hfp
 go_enter Tryz.func162,Tryz.ntmps162
 go_upto_region 2 with fail
 refine zbi (fun W=>LE C W s V∧Blk W w.heap.size 309 (zas { i with fn:=s.fn } (.slice aa i.args.length ac)).toArray∧zhe W C.B (.slice aa i.args.length ac) i.args∧w.heap.size≤W.heap.size)
  ⟨H.out.alloc _,Blk.newAt rfl,HA.out.alloc _,by simp⟩ ?_
 rintro W ⟨hL,hB,hA,hz⟩
 clear hl hp hll hlp
 obtain⟨hl,hp,_,hfp,hll,hlp,_⟩:=hL.cells
 have hbc:∀ j,W.cell? ⟨w.heap.size,j,none⟩=#[.int .i64 i.op,.int .i64 i.place,.int .i64 s.fn,.int .i64 i.x,.bool i.y.c,.int .i64 i.y.n,.bool i.z.c,.int .i64 i.z.n,.int .i64 i.bin,.int .i64 i.var,.int .i64 i.site,.int .i64 i.call,.slice aa i.args.length ac,.int .i64 i.to][j]? := hB.cell
 have hbl:=hB.lt
 have HBX:=zH hB
 have HU:=zH (H.out.fresh (k:=w.heap.size) (Nat.le_refl _))
 obtain⟨ca,cc,hcv⟩:=zat hL.cr
 rw[hcv]at hp
 have HL:=zH hL
 have HA2:=zH hA
 have HCV:=zH hcv
 have HZ:=zH hz
 have hBW:=zH hL.bel.size
 clear hL hB hA hcv hz
 have HBL:=zH HBX.out
 refine zh0 16 (fun w'=>w'.cell? ⟨C.lb,0,none⟩=some (.pointer (some ⟨C.pb,0,none⟩))∧w'.cell? ⟨C.pb,4,none⟩=some (.slice ca s.code.length cc)∧∀ j,w'.cell? ⟨w.heap.size,j,none⟩=#[.int .i64 i.op,.int .i64 i.place,.int .i64 s.fn,.int .i64 i.x,.bool i.y.c,.int .i64 i.y.n,.bool i.z.c,.int .i64 i.z.n,.int .i64 i.bin,.int .i64 i.var,.int .i64 i.site,.int .i64 i.call,.slice aa i.args.length ac,.int .i64 i.to][j]?) (by kernel_rfl) rfl rfl (by kernel_rfl) ?_
 simp only[List.take_succ_cons,List.take_zero]
 have hHeld:W.drew.cell? ⟨C.lb,0,none⟩=some (.pointer (some ⟨C.pb,0,none⟩))∧W.drew.cell? ⟨C.pb,4,none⟩=some (.slice ca s.code.length cc)∧∀ j,W.drew.cell? ⟨w.heap.size,j,none⟩=#[.int .i64 i.op,.int .i64 i.place,.int .i64 s.fn,.int .i64 i.x,.bool i.y.c,.int .i64 i.y.n,.bool i.z.c,.int .i64 i.z.n,.int .i64 i.bin,.int .i64 i.var,.int .i64 i.site,.int .i64 i.call,.slice aa i.args.length ac,.int .i64 i.to][j]? := ⟨by simp[hl],by simp[hp],hbc⟩
 iterate 12(refine tk 0 rfl (by kernel_rfl) (fun _ _ _ h=>h) hHeld (fun w hSw=>by go_simp;try with_reducible rfl) (by simp only[pA,pB,pC,pD,pE,pF,pG,pH];exact rfl) ?_)
 refine rdy 12 (by kernel_rfl) rfl fun K hK=>?_
 clear hHeld
 go_simp
 refine hK.out _ _ ⟨by simp[World.cell?_alloc_some,hl],by simp[World.cell?_alloc_some,hp],(Blk.alloc HBX.out _).cell⟩ (fun hHeld=>?_)
 clear hK K
 refine rdy 13 (by kernel_rfl) rfl fun K hK=>?_
 refine zc5 tyIns rfl _ _ rfl C.B _ s.code.length (zcx V.ags s.code) W.heap.size _ _ ((za2 (by have:=HL.out.cr;rw[HCV.out]at this;exact this)).alloc _) (Blk.newAt (by simp)) rfl rfl rfl (by simp[Value.oneCell']) (by omega) (Nat.le_trans hBW.out (by simp)) ?_
 intro g cap w2 hrow2 hg2 hat2
 have hg3:=hg2
 rw[← HCV.out]at hg3
 have hp2:=(Blk.append ((HL.out.drew.alloc _).p) ((za2 HL.out.cr).alloc _) hg3 (by decide))
 have hpp2:=hp2.cell
 have hfp2:=hp2.frozen
 rw[HCV.out]at hpp2
 have hl2:=(Blk.append ((HL.out.drew.alloc _).l) ((za2 HL.out.cr).alloc _) hg3 (by decide))
 have hll2:=hl2.cell
 have hbx2:=(Blk.alloc (Blk.drew HBX.out) _).grown hg3 (fun e=>HU.out (.inr (.inr (.inr (.inr (.inr (.inr (.inr (.inr (.inl e.symm))))))))))
 have HN:=zH (zvz HL.out HA2.out hrow2 hg3)
 have HS:=zH hbx2
 clear hp2 hl2 hrow2 hg2 hat2 hHeld hg3 hbx2
 refine hK.out _ _ ⟨by simp[hll2],by simp[hpp2],HS.out.cell⟩ (fun hHeld=>?_)
 clear hK K
 iterate 2(refine tk 14 rfl (by kernel_rfl) (fun _ _ _ h=>h) hHeld (fun w hSw=>by go_simp;try with_reducible rfl) (by simp only[pA,pB,pC,pD,pE,pF,pG,pH];exact rfl) ?_)
 refine lst (by kernel_rfl) rfl fun K hK=>?_
 go_simp
 refine hK _ _ ?_
 clear hK K hHeld
 go_wp2_with fail
 go_ret
 exact⟨zpl (by simp),HN.out⟩
end
section
open Go.RowKit Go.Maps
attribute [local go_sem] zaq
structure TS (C:LC)(sp:Nat)(t:Stm):Prop where
 at_:zad C.w0 C.B0 sp t
 ok:okStm t
theorem zad.low0 {w w1:World}{B xb N:Nat}{x:Stm}(h:zad w B xb x)(hb:Below N w w1)(hN:w.heap.size≤N):zad w1 B xb x:=by
 obtain⟨av,bv,ev,h0,h1,h2,h3⟩:=h
 have hrow:∀ {e size n:Nat} {v:Value} {ys:List Value},w.ownsRow B e size v n ys→w1.ownsRow B e size v n ys:=fun hr=>zcr hr fun k e=>hb.block k (Nat.lt_of_lt_of_le (hr.lt k e).2 hN)
 exact⟨av,bv,ev,h0.below hb (Nat.lt_of_lt_of_le h0.lt hN),hrow h1,hrow h2,hrow h3⟩
theorem LE.stm {C:LC}{w:World}{s:Lo}{V:LV}{sp:Nat}{t:Stm}(h:LE C w s V)(ht:TS C sp t):zad w C.B0 sp t:=ht.at_.low0 h.bel (Nat.le_refl _)
theorem TS.lt {C:LC}{sp:Nat}{t:Stm}(ht:TS C sp t):sp<C.B:=ht.at_.lt
structure XE (C:LC)(w:World)(V:LV)(xb:Nat)(x:In)(av:Value):Prop where
 b:Blk w xb 309 (zas x av).toArray
 a:zhe w C.B av x.args
 u:¬ Uses C V xb
section
variable {C:LC} {w w1:World} {V:LV} {xb:Nat} {x x':In} {av:Value}
theorem XE.chg {ts:List TypeId}{bs:List Nat}(h:XE C w V xb x av)(hc:Chg C.B ts bs w w1)(h1:309 ∉ ts)(h2:306 ∉ ts)(hx:xb ∉ bs)(hb:∀ k,av.ownBlock=some k→k ∉ bs):XE C w1 V xb x av :=
 ⟨h.b.chg hc h1 hx,zcs h.a hc h2 hb,h.u⟩
theorem XE.store (h:XE C w V xb x av)(i:Nat)(u:Value)(hc:(zas x av).toArray.setIfInBounds i u=(zas x' av).toArray)(ha:x'.args=x.args:=by rfl):XE C (w.setCell ⟨xb,i,none⟩ u) V xb x' av :=
 ⟨(h.b.set_ i u).cast hc,by rw[ha];exact zaj h.a h.b (by decide) _ _,h.u⟩
theorem XE.alloc (h:XE C w V xb x av)(o:Obj):XE C (w.alloc o) V xb x av:=⟨h.b.alloc o,World.ownsRow.alloc h.a o,h.u⟩
theorem XE.drewN (h:XE C w V xb x av)(n:Nat):XE C (w.drewN n) V xb x av:=⟨h.b.drewN n,zwr h.a n,h.u⟩
theorem XE.drew (h:XE C w V xb x av):XE C w.drew V xb x av:=⟨h.b.drew,za2 h.a,h.u⟩
end
theorem zj1 {l:List Fu}{c:Nat}{f:Fu}(h:l[c]? = some f)(j:Nat)(hj:j<5):(l.flatMap zcb)[c*5+j]? = (zcb f)[j]? := by
 induction l generalizing c with
 | nil=>simp at h
 | cons g r ih =>
  cases c with
  | zero =>
   simp at h
   subst h
   rw[List.flatMap_cons,List.getElem?_append_left (by simp[zcb];omega)]
   simp
  | succ c =>
   rw[List.flatMap_cons,List.getElem?_append_right (by simp[zcb];omega),show(c+1)*5+j-(zcb g).length=c*5+j by simp[zcb];omega]
   exact ih (by simpa using h)
def zj7 (C:LC)(w:World)(V:LV)(xb:Nat)(M:Except Flt (In×Lo)):Ending→World→Prop :=
 zci C w M fun p v w'=>v=.tuple #[]∧LE C w' p.2 V∧∃ av,XE C w' V xb p.1 av
theorem znp {l:List Nm}{c:Nat}{f:Nm}(h:l[c]? = some f)(j:Nat)(hj:j<4):(l.flatMap zdx)[c*4+j]? = (zdx f)[j]? := by
 induction l generalizing c with
 | nil=>simp at h
 | cons g r ih =>
  cases c with
  | zero =>
   simp at h
   subst h
   rw[List.flatMap_cons,List.getElem?_append_left (by simp[zdx];omega)]
   simp
  | succ c =>
   rw[List.flatMap_cons,List.getElem?_append_right (by simp[zdx];omega),show(c+1)*4+j-(zdx g).length=c*4+j by simp[zdx];omega]
   exact ih (by simpa using h)
theorem LE.tcells {C:LC}{w:World}{s:Lo}{V:LV}{sp:Nat}{t:Stm}(h:LE C w s V)(ht:TS C sp t):∃ aa ac ba bc ea ec,(∀ i,w.cell? ⟨sp,i,none⟩=#[.int .i64 t.op,.int .i64 t.at_,.int .i64 t.mark,
  .string t.x.text,.int .i64 t.x.at_,.bool t.x.num,.int .i64 t.x.n,.string t.y.text,.int .i64 t.y.at_,.bool t.y.num,.int .i64 t.y.n,
  .string t.z.text,.int .i64 t.z.at_,.bool t.z.num,.int .i64 t.z.n,.string t.f.text,.int .i64 t.f.at_,.bool t.f.num,.int .i64 t.f.n,
  .slice aa t.args.length ac,.int .i64 t.bin,.int .i64 t.field,.bool t.has,.slice ba t.body.length bc,.slice ea t.els.length ec][i]?)∧sp<w.heap.size ∧
  zbs w C.B0 (.slice aa t.args.length ac) t.args∧zbe w C.B0 (.slice ba t.body.length bc) t.body∧zbe w C.B0 (.slice ea t.els.length ec) t.els:=by
 obtain⟨av,bv,ev,h0,h1,h2,h3⟩:=h.stm ht
 obtain⟨aa,ac,rfl⟩:=zat h1
 obtain⟨ba,bc,rfl⟩:=zat h2
 obtain⟨ea,ec,rfl⟩:=zat h3
 exact⟨aa,ac,ba,bc,ea,ec,h0.cell,h0.lt,h1,h2,h3⟩
def zoh (C:LC)(w:World)(s:Lo)(V:LV)(xb:Nat)(x:In)(W:World):Prop:=LE C W s V∧XE C W V xb x (.slice none 0 0)∧Chg C.B [] [xb] w W
theorem zvc (C:LC)(w:World)(s:Lo)(V:LV)(sp xb b:Nat)(t:Stm)(x:In)(hV:V.lm=some b)(h:LE C w s V)(ht:TS C sp t)(hx:XE C w V xb x (.slice none 0 0))(hxa:x.args=[])(hg:mget s.funs t.f.text=none) :
  Calls Tryz.prog 313 #[.pointer (some ⟨C.lb,0,none⟩),.pointer (some ⟨sp,0,none⟩),.pointer (some ⟨xb,0,none⟩)] w (zj7 C w V xb (zc2 s t x)):=by
 have HK:=zH (show zcm s.funs t.f.text=-1 by unfold zcm;rw[hg])
 have HM:=zH (show zc2 s t x=.error ⟨9,t.f.at_⟩ by unfold zc2;rw[hg])
 clear hg hxa
 obtain⟨hl,hp,hfl,hfp,hll,hlp,hne⟩:=h.cells
 obtain⟨_,_,_,_,_,_,hs0,hsl,_⟩:=h.tcells ht
 have hsx:sp≠xb:=fun e=>hx.u (.inl (e ▸ ht.lt))
 have hxc:∀ j,w.cell? ⟨xb,j,none⟩=#[.int .i64 x.op,.int .i64 x.place,.int .i64 x.fn,.int .i64 x.x,.bool x.y.c,.int .i64 x.y.n,.bool x.z.c,.int .i64 x.z.n,.int .i64 x.bin,.int .i64 x.var,.int .i64 x.site,.int .i64 x.call,.slice none 0 0,.int .i64 x.to][j]? := hx.b.cell
 have hxf:=hx.b.frozen
 have hxl:=hx.b.lt
 have hxB:C.B≤xb:=Nat.le_of_not_lt fun hlt=>hx.u (.inl hlt)
 have H:=zH h
 have HT:=zH ht
 have HX:=zH hx
 have HXB:=zH hxB
 clear h hx ht hxB
 go_enter Tryz.func313,Tryz.ntmps313
 go_wp2_with fail
 go_region_with (go_at_call 114;refine(zbo _ _ s.funs _ ((H.out.drew).fm) (zal HT.out.ok.f)).mono ?_;rintro e w' ⟨rfl,rfl⟩;rw[HK.out])
 all_goals go_wp2_with fail
 all_goals (refine(zdj _ _ _).mono ?_;rintro e w4 ⟨rfl,rfl⟩)
 all_goals exact⟨rfl,.fault HM.out (za1.new (by simp)) (by simp) (((Below.refl C.B w).setCell (by exact HXB.out) _).drew.alloc (by simp;exact H.out.bel.size) _)⟩
theorem zxz (C:LC)(w:World)(s:Lo)(V:LV)(sp xb b:Nat)(t:Stm)(x:In)(hV:V.lm=some b)(h:LE C w s V)(ht:TS C sp t)(hx:XE C w V xb x (.slice none 0 0))(hxa:x.args=[])(c:Nat)(f:Fu)(hg:mget s.funs t.f.text=some c)(hf:s.fs[c]? = some f)(hn:t.args.length≠f.params) :
  Calls Tryz.prog 313 #[.pointer (some ⟨C.lb,0,none⟩),.pointer (some ⟨sp,0,none⟩),.pointer (some ⟨xb,0,none⟩)] w (zj7 C w V xb (zc2 s t x)):=by
 have HM:=zH (show zc2 s t x=.error ⟨10,t.f.at_⟩ by unfold zc2;rw[hg];simp only;rw[if_neg (by unfold Lo.paramsOf;rw[hf];exact hn)])
 have HK:=zH (show zcm s.funs t.f.text=c by unfold zcm;rw[hg])
 have hc5:c<s.fs.length:=(List.getElem?_eq_some_iff.1 hf).1
 have hc6:s.fs.length≤5:=by rw[h.i.fl];exact h.i.f5
 obtain⟨fg,fcap,hfv,_,_⟩:=h.fr.form (by omega)
 have HPC:=zH (show ∀ W,LE C W s V→W.cell? ⟨fg,c*5+1,none⟩=some (.int .i64 f.params)from fun W hW=>by
  have:=hW.fr
  rw[hfv]at this
  rw[this.cellAt (c*5+1) (by omega),zj1 hf 1 (by omega)]
  rfl)
 have HFV:=zH hfv
 clear hg hf hfv
 have hne2:((t.args.length:Int) != (f.params:Int))=true:=bne_iff_ne.2 (by omega)
 clear hxa
 obtain⟨hl,hp,hfl,hfp,hll,hlp,hne⟩:=h.cells
 obtain⟨_,_,_,_,_,_,hs0,hsl,_⟩:=h.tcells ht
 have hsx:sp≠xb:=fun e=>hx.u (.inl (e ▸ ht.lt))
 have hxc:∀ j,w.cell? ⟨xb,j,none⟩=#[.int .i64 x.op,.int .i64 x.place,.int .i64 x.fn,.int .i64 x.x,.bool x.y.c,.int .i64 x.y.n,.bool x.z.c,.int .i64 x.z.n,.int .i64 x.bin,.int .i64 x.var,.int .i64 x.site,.int .i64 x.call,.slice none 0 0,.int .i64 x.to][j]? := hx.b.cell
 have hxf:=hx.b.frozen
 have hxl:=hx.b.lt
 have hxB:C.B≤xb:=Nat.le_of_not_lt fun hlt=>hx.u (.inl hlt)
 have H:=zH h
 have HT:=zH ht
 have HX:=zH hx
 have HXB:=zH hxB
 clear h hx ht hxB
 go_enter Tryz.func313,Tryz.ntmps313
 go_wp2_with fail
 go_cut [] (fun wx=>zoh C w s V xb { x with call:=c } wx)
 case first =>
  go_region_with (go_at_call 114;refine(zbo _ _ s.funs _ ((H.out.drew).fm) (zal HT.out.ok.f)).mono ?_;rintro e w' ⟨rfl,rfl⟩;rw[HK.out])
  all_goals go_wp2_with fail
  all_goals go_meet
  all_goals exact⟨(H.out.far HX.out.u _).drew,(HX.out.store 11 _ (by simp[zas])).drew,((Chg.refl _ _ _ _).setX HXB.out (by simp) _).drew⟩
 case rest =>
  obtain⟨hL,hX,hC⟩:=hcut
  clear hl hp hfl hfp hll hlp hs0 hsl hxc hxf hxl
  obtain⟨hl,hp,hfl,hfp,hll,hlp,_⟩:=hL.cells
  rw[HFV.out]at hp
  obtain⟨aa,ac,ba,bc,ea,ec,hs0,hsl,_⟩:=hL.tcells HT.out
  have hxc:∀ j,wc.cell? ⟨xb,j,none⟩=#[.int .i64 x.op,.int .i64 x.place,.int .i64 x.fn,.int .i64 x.x,.bool x.y.c,.int .i64 x.y.n,.bool x.z.c,.int .i64 x.z.n,.int .i64 x.bin,.int .i64 x.var,.int .i64 x.site,.int .i64 c,.slice none 0 0,.int .i64 x.to][j]? := hX.b.cell
  have hxl:=hX.b.lt
  have hpc:=HPC.out _ hL
  have HC:=zH hC
  have HL:=zH hL
  clear hL hX hC
  go_wp2_with fail
  go_quiet (fail)
  go_wp2_with fail
  refine(zdj _ _ _).mono ?_
  rintro e w4 ⟨rfl,rfl⟩
  exact⟨rfl,.fault HM.out (za1.new rfl) HC.out.size (((HC.out.drewN _).below H.out.bel.size).alloc (Nat.le_trans H.out.bel.size HC.out.size) _)⟩
end
section
open Go.RowKit Go.Maps
theorem zcc {α : Type}{l:List α}{k:Nat}{n:α}(h:l[k]? = some n):l.drop k=n::l.drop (k+1):=by
 obtain⟨hlt,rfl⟩:=List.getElem?_eq_some_iff.1 h
 exact List.drop_eq_getElem_cons hlt
theorem zb2.below0 {w w1:World}{B N:Nat}(hb:Below N w w1)(hN:w.heap.size≤N):∀ {ps:List (Value×Value)} {ds:List Dcl},zb2 w B ps ds→zb2 w1 B ps ds
 | [],[],_=>trivial
 | [],_::_,h=>h.elim
 | _::_,[],h=>h.elim
 | _::_,_::_,h=>⟨zcr h.1 fun k e=>hb.block k (Nat.lt_of_lt_of_le (h.1.lt k e).2 hN),zcr h.2.1 fun k e=>hb.block k (Nat.lt_of_lt_of_le (h.2.1.lt k e).2 hN),zb2.below0 hb hN h.2.2⟩
theorem zav.below0 {w w1:World}{B N:Nat}(hb:Below N w w1)(hN:w.heap.size≤N):∀ {bs:List Nat} {xs:List Stm},zav w B bs xs→zav w1 B bs xs
 | [],[],_=>trivial
 | [],_::_,h=>h.elim
 | _::_,[],h=>h.elim
 | _::_,_::_,h=>⟨h.1,h.2.1.low0 hb hN,zav.below0 hb hN h.2.2⟩
theorem zd4.below0 {w w1:World}{B N tb:Nat}{ds:List Dcl}{xs:List Stm}(h:zd4 w B tb ds xs)(hb:Below N w w1)(hN:w.heap.size≤N):zd4 w1 B tb ds xs:=by
 obtain⟨hB,dv,sv,ptrs,ps,a,b,c,d,e⟩:=h
 exact⟨hB,dv,sv,ptrs,ps,a.below hb (Nat.lt_of_lt_of_le a.lt hN),zcr b fun k e=>hb.block k (Nat.lt_of_lt_of_le (b.lt k e).2 hN),c.below0 hb hN,zcr d fun k e=>hb.block k (Nat.lt_of_lt_of_le (d.lt k e).2 hN),e.below0 hb hN⟩
theorem zb2.low0 {w:World}{B B':Nat}(hB:B'≤B):∀ {ps:List (Value×Value)} {ds:List Dcl},zb2 w B ps ds→zb2 w B' ps ds
 | [],[],_=>trivial
 | [],_::_,h=>h.elim
 | _::_,[],h=>h.elim
 | _::_,_::_,h=>⟨zbn h.1 hB,zbn h.2.1 hB,zb2.low0 hB h.2.2⟩
theorem zav.low2 {w:World}{B B':Nat}(hB:B'≤B):∀ {bs:List Nat} {xs:List Stm},zav w B bs xs→zav w B' bs xs
 | [],[],_=>trivial
 | [],_::_,h=>h.elim
 | _::_,[],h=>h.elim
 | _::_,_::_,h=>⟨Nat.le_trans hB h.1,h.2.1.low hB,zav.low2 hB h.2.2⟩
theorem zd4.low0 {w:World}{B B' tb:Nat}{ds:List Dcl}{xs:List Stm}(h:zd4 w B tb ds xs)(hB:B'≤B):zd4 w B' tb ds xs:=by
 obtain⟨h0,dv,sv,ptrs,ps,a,b,c,d,e⟩:=h
 exact⟨Nat.le_trans hB h0,dv,sv,ptrs,ps,a,zbn b hB,c.low2 hB,zbn d hB,e.low0 hB⟩
structure PV where
 tb:Nat
 fsv:Value
 cv:Value
 av:Value
 nv:Value
 gv:Value
 ags:List Value
def zmm (P:Pr)(X:PV):Array Value:=#[.pointer (some ⟨X.tb,0,none⟩),.int .i64 P.nv,.int .i64 P.nm,X.fsv,X.cv,X.av,X.nv,X.gv,.int .i64 P.main]
structure zeu (w:World)(B pb:Nat)(P:Pr)(X:PV):Prop where
 pB:B≤pb
 ok:∃ t,zbu t=.ok P
 tree:zd4 w B X.tb P.ds P.xs
 p:Blk w pb 211 (zmm P X)
 fr:w.ownsRow B 228 5 X.fsv P.fs.length (P.fs.flatMap zcb)
 cr:w.ownsRow B 309 14 X.cv P.code.length (zcx X.ags P.code)
 asl:X.ags.length=P.code.length
 ar:∀ (k:Nat) a i,X.ags[k]? = some a→P.code[k]? = some i→zhe w B a i.args
 atr:w.ownsRow B 3 1 X.av P.at_.length (zb5 P.at_)
 nr:w.ownsRow B 3 1 X.nv P.news.length (zb5 P.news)
 gr:w.ownsRow B 3 1 X.gv P.gos.length (zb5 P.gos)
def zgw (w:World)(B pb:Nat)(P:Pr):Prop:=∃ X,zeu w B pb P X
def zi6 (w:World)(t:ByteArray):Ending→World→Prop:=zhy w (zbu t) fun P b w'=>zgw w' w.heap.size b P
theorem zft {N:Nat}{w w':World}(h:Below N w w')(n:Nat):Below N w (w'.drewN n):=⟨h.os,h.tape,h.output,h.size,h.block⟩
theorem zeu.drewN {w:World}{B b:Nat}{P:Pr}{X:PV}(h:zeu w B b P X)(n:Nat):zeu (w.drewN n) B b P X :=
 ⟨h.pB,h.ok,h.tree.below0 (zft (Below.refl _ w) n) (Nat.le_refl _),h.p,h.fr,h.cr,h.asl,h.ar,h.atr,h.nr,h.gr⟩
theorem zeu.drew {w:World}{B b:Nat}{P:Pr}{X:PV}(h:zeu w B b P X):zeu w.drew B b P X :=
 ⟨h.pB,h.ok,h.tree.below0 (Below.refl _ w).drew (Nat.le_refl _),h.p,h.fr,h.cr,h.asl,h.ar,h.atr,h.nr,h.gr⟩
theorem zgw.drew {w:World}{B b:Nat}{P:Pr}(h:zgw w B b P):zgw w.drew B b P:=by
 obtain⟨X,h⟩:=h
 exact⟨X,h.pB,h.ok,h.tree.below0 (Below.refl _ w).drew (Nat.le_refl _),h.p,h.fr,h.cr,h.asl,h.ar,h.atr,h.nr,h.gr⟩
end
end Go.Proofs.YtkmcihhndgdhpaaGreat
