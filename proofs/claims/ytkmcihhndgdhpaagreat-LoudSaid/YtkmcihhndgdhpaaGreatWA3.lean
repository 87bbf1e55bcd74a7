/- Worded3 DeclA: parts of the walk. -/
import Derived.Test.YtkmcihhndgdhpaaGreatWA2
set_option maxRecDepth 100000
set_option maxHeartbeats 4000000
set_option linter.unusedSimpArgs false
set_option linter.unusedVariables false
namespace Go.Proofs.YtkmcihhndgdhpaaGreat
section
open Go.RowKit
attribute [local go_sem] zaq
set_option linter.unusedSimpArgs false
theorem WK.low {C:PC}{w w1:World}{xb:Nat}{dv:Value}{ptrs:List Nat}{p:List Stm}{s':Sc}{w':World}(h:WK C w1 xb dv ptrs p s' w')(hle:w.heap.size≤w1.heap.size):WK C w xb dv ptrs p s' w':=by
 obtain⟨x,l,hp,hX,news,hE,hT,hS⟩:=h
 exact⟨x,l,hp,hX,news,hE,hT,hS.map hle fun _ _ _ _ h=>h.low hle⟩
theorem ztv (d:Nat)(hd:d≤6)(HBl:zhd (d+1))(C:PC)(bl:Sc→Nat→Except Flt ((List Nat×List Stm)×Sc))(hbl:zdz C.t (zbh C.t (6-d) (d+1)) (d+1)=bl)(w:World)(s:Sc)(x:Stm)(xb:Nat)(dv:Value)(ptrs:List Nat)(E:Env C w s)(T:TrAt C w dv ptrs)(X:zad w C.rb xb x)(hhas:x.has=false)(hB:C.B≤xb)(hrb:C.rb≤w.heap.size)
  (hat:ptrs.length≤s.at_+1) (h0:0<ptrs.length)
  (q1:(s.tok.text.toList==[108,111,99,107])=false) (q2:(s.tok.text.toList==[117,110,108,111,99,107])=false) (q3:(s.tok.text.toList==[106,111,105,110])=false) (q4:(s.tok.text.toList==[114,101,116,117,114,110])=false) (q5:(s.tok.text.toList==[105,102])=true) (q6:(s.tok.text.toList==[119,104,105,108,101])=false) (q7:(s.tok.text.toList==[103,111])=false) :
  Calls Tryz.prog 311 #[.pointer (some ⟨C.pb,0,none⟩),.pointer (some ⟨xb,0,none⟩),.int .i64 (d:Int)] w
   (Post C.B [398] [C.sb,C.tb,xb] w (zbk C.t bl s (ptrs.length-1) x) fun p v w'=>v=.tuple #[]∧WK C w xb dv ptrs p.1 p.2 w'):=by
 have HBR:=zok d hd HBl C
 rw[hbl]at HBR
 have S0:=zH (SEnv.start E X hB hrb)
 have HT:=zH T
 have e1:eqB s.tok.text zg7=_:=zao q1
 have e2:eqB s.tok.text zgb=_:=zao q2
 have e3:eqB s.tok.text zf6=_:=zao q3
 have e4:eqB s.tok.text zgv=_:=zao q4
 have e5:eqB s.tok.text wIf=_:=zao q5
 have e6:eqB s.tok.text zgk=_:=zao q6
 have e7:eqB s.tok.text wGo=_:=zao q7
 have mdd:=zbk.eq_1 C.t bl s (ptrs.length-1) x
 simp only[e1,e2,e3,e4,e5,e6,e7,Bool.or_true,Bool.true_or,Bool.or_false,Bool.or_self,Bool.false_eq_true,if_true,if_false]at mdd
 have MD0:=zH mdd
 obtain⟨M,hM⟩:∃ M,M=zbk C.t bl s (ptrs.length-1) x:=⟨_,rfl⟩
 rw[← hM]at MD0 ⊢
 obtain⟨hp0,hs0,hx0⟩:=S0.out.cells
 obtain⟨av0,bv0,ev0,hy0,_⟩:=S0.out.x.cells
 obtain⟨hne1,hne2⟩:=S0.out.ne
 clear E T X hM mdd e1 e2 e3 e4 e5 e6 e7
 go_enter Tryz.func311,Tryz.ntmps311
 go_wp2_with fail
 refine(zck S0.out.e).mono ?_
 rintro e w1 (⟨p1,v,hr,rfl,⟨rfl,hE⟩,hch⟩ | ⟨f,b,hr,rfl,hfb,hle,hch⟩)
 rotate_left
 ·exact⟨rfl,(S0.out.fault (by have md:=MD0.out;rw[hr]at md;exact md) hfb hle hch).wide (by simp) (by intro g hg;simp at hg ⊢;omega)⟩
 have R1:=zH hr
 have md:=MD0.out
 rw[hr,zae]at md
 have MD1:=zH md
 have S1:=zH (S0.out.scan hE hch)
 obtain⟨hp1,hs1,hx1⟩:=S1.out.cells
 obtain⟨av1,bv1,ev1,hy1,_⟩:=S1.out.x.cells
 obtain⟨hl1,hm1,hn1⟩:=S1.out.lts
 clear hr hE hch md
 go_wp2_with fail
 refine(HBR w1 p1 x xb dv ptrs S1.out.e (TrAt.around S0.out S1.out HT.out) S1.out.x hhas hB S1.out.rbw (fun hk=>by have:=zfp R1.out S0.out.e.at_ hk;omega) h0 _ false q6).mono ?_
 rintro e w3 (⟨p3,v,hr,rfl,⟨rfl,hK⟩,hch⟩ | ⟨f,b,hr,rfl,hfb,hle,hch⟩)
 rotate_left
 ·exact⟨rfl,.inr ⟨f,b,by have md:=MD1.out;rw[hr]at md;exact md,rfl,hfb,Nat.le_trans S1.out.c.size hle,(S1.out.c.mono (by simp) (by intro g hg;simp at hg ⊢;omega)).trans hch⟩⟩
 have FIN:=zH (show Post C.B [398] [C.sb,C.tb,xb] w M (fun p v w'=>v=.tuple #[]∧WK C w xb dv ptrs p.1 p.2 w') (.returned (.tuple #[])) w3 from
  .inl ⟨p3,_,by have md:=MD1.out;rw[hr]at md;exact md,rfl,⟨rfl,hK.low S1.out.c.size⟩,(S1.out.c.mono (by simp) (by intro g hg;simp at hg ⊢;omega)).trans hch⟩)
 clear hr hK hch
 go_wp2_with fail
 refine bodyPost_ret (results_none rfl _ _ _) rfl ?_
 exact FIN.out
theorem zub (d:Nat)(hd:d≤6)(HBl:zhd (d+1))(C:PC)(bl:Sc→Nat→Except Flt ((List Nat×List Stm)×Sc))(hbl:zdz C.t (zbh C.t (6-d) (d+1)) (d+1)=bl)(w:World)(s:Sc)(x:Stm)(xb:Nat)(dv:Value)(ptrs:List Nat)(E:Env C w s)(T:TrAt C w dv ptrs)(X:zad w C.rb xb x)(hhas:x.has=false)(hB:C.B≤xb)(hrb:C.rb≤w.heap.size)
  (hat:ptrs.length≤s.at_+1) (h0:0<ptrs.length)
  (q1:(s.tok.text.toList==[108,111,99,107])=false) (q2:(s.tok.text.toList==[117,110,108,111,99,107])=false) (q3:(s.tok.text.toList==[106,111,105,110])=false) (q4:(s.tok.text.toList==[114,101,116,117,114,110])=false) (q5:(s.tok.text.toList==[105,102])=false) (q6:(s.tok.text.toList==[119,104,105,108,101])=true) (q7:(s.tok.text.toList==[103,111])=false) :
  Calls Tryz.prog 311 #[.pointer (some ⟨C.pb,0,none⟩),.pointer (some ⟨xb,0,none⟩),.int .i64 (d:Int)] w
   (Post C.B [398] [C.sb,C.tb,xb] w (zbk C.t bl s (ptrs.length-1) x) fun p v w'=>v=.tuple #[]∧WK C w xb dv ptrs p.1 p.2 w'):=by
 have HBR:=zok d hd HBl C
 rw[hbl]at HBR
 have S0:=zH (SEnv.start E X hB hrb)
 have HT:=zH T
 have e1:eqB s.tok.text zg7=_:=zao q1
 have e2:eqB s.tok.text zgb=_:=zao q2
 have e3:eqB s.tok.text zf6=_:=zao q3
 have e4:eqB s.tok.text zgv=_:=zao q4
 have e5:eqB s.tok.text wIf=_:=zao q5
 have e6:eqB s.tok.text zgk=_:=zao q6
 have e7:eqB s.tok.text wGo=_:=zao q7
 have mdd:=zbk.eq_1 C.t bl s (ptrs.length-1) x
 simp only[e1,e2,e3,e4,e5,e6,e7,Bool.or_true,Bool.true_or,Bool.or_false,Bool.or_self,Bool.false_eq_true,if_true,if_false]at mdd
 have MD0:=zH mdd
 obtain⟨M,hM⟩:∃ M,M=zbk C.t bl s (ptrs.length-1) x:=⟨_,rfl⟩
 rw[← hM]at MD0 ⊢
 obtain⟨hp0,hs0,hx0⟩:=S0.out.cells
 obtain⟨av0,bv0,ev0,hy0,_⟩:=S0.out.x.cells
 obtain⟨hne1,hne2⟩:=S0.out.ne
 clear E T X hM mdd e1 e2 e3 e4 e5 e6 e7
 go_enter Tryz.func311,Tryz.ntmps311
 go_wp2_with fail
 refine(zck S0.out.e).mono ?_
 rintro e w1 (⟨p1,v,hr,rfl,⟨rfl,hE⟩,hch⟩ | ⟨f,b,hr,rfl,hfb,hle,hch⟩)
 rotate_left
 ·exact⟨rfl,(S0.out.fault (by have md:=MD0.out;rw[hr]at md;exact md) hfb hle hch).wide (by simp) (by intro g hg;simp at hg ⊢;omega)⟩
 have R1:=zH hr
 have md:=MD0.out
 rw[hr,zae]at md
 have MD1:=zH md
 have S1:=zH (S0.out.scan hE hch)
 obtain⟨hp1,hs1,hx1⟩:=S1.out.cells
 obtain⟨av1,bv1,ev1,hy1,_⟩:=S1.out.x.cells
 obtain⟨hl1,hm1,hn1⟩:=S1.out.lts
 clear hr hE hch md
 go_wp2_with fail
 refine(HBR w1 p1 x xb dv ptrs S1.out.e (TrAt.around S0.out S1.out HT.out) S1.out.x hhas hB S1.out.rbw (fun hk=>by have:=zfp R1.out S0.out.e.at_ hk;omega) h0 _ true q6).mono ?_
 rintro e w3 (⟨p3,v,hr,rfl,⟨rfl,hK⟩,hch⟩ | ⟨f,b,hr,rfl,hfb,hle,hch⟩)
 rotate_left
 ·exact⟨rfl,.inr ⟨f,b,by have md:=MD1.out;rw[hr]at md;exact md,rfl,hfb,Nat.le_trans S1.out.c.size hle,(S1.out.c.mono (by simp) (by intro g hg;simp at hg ⊢;omega)).trans hch⟩⟩
 have FIN:=zH (show Post C.B [398] [C.sb,C.tb,xb] w M (fun p v w'=>v=.tuple #[]∧WK C w xb dv ptrs p.1 p.2 w') (.returned (.tuple #[])) w3 from
  .inl ⟨p3,_,by have md:=MD1.out;rw[hr]at md;exact md,rfl,⟨rfl,hK.low S1.out.c.size⟩,(S1.out.c.mono (by simp) (by intro g hg;simp at hg ⊢;omega)).trans hch⟩)
 clear hr hK hch
 go_wp2_with fail
 refine bodyPost_ret (results_none rfl _ _ _) rfl ?_
 exact FIN.out
theorem zvh (d:Nat)(hd:d≤6)(HBl:zhd (d+1)):zpa d:=by
 intro C w s x xb dv ptrs E T X hhas hB hrb hat h0
 generalize hbl:zdz C.t (zbh C.t (6-d) (d+1)) (d+1)=bl
 by_cases h1:s.tok.text.toList=[108,111,99,107]
 ·exact zs4 d bl C w s x xb dv ptrs E T X hB hrb (zh4 h1) (zay h1 rfl) (zay h1 rfl) (zay h1 rfl) (zay h1 rfl) (zay h1 rfl) (zay h1 rfl)
 by_cases h2:s.tok.text.toList=[117,110,108,111,99,107]
 ·exact zwn d bl C w s x xb dv ptrs E T X hB hrb (zay h2 rfl) (zh4 h2) (zay h2 rfl) (zay h2 rfl) (zay h2 rfl) (zay h2 rfl) (zay h2 rfl)
 by_cases h3:s.tok.text.toList=[106,111,105,110]
 ·exact zu3 d bl C w s x xb dv ptrs E T X hB hrb (zay h3 rfl) (zay h3 rfl) (zh4 h3) (zay h3 rfl) (zay h3 rfl) (zay h3 rfl) (zay h3 rfl)
 by_cases h4:s.tok.text.toList=[114,101,116,117,114,110]
 ·exact ztj d bl C w s x xb dv ptrs E T X hB hrb (zay h4 rfl) (zay h4 rfl) (zay h4 rfl) (zh4 h4) (zay h4 rfl) (zay h4 rfl) (zay h4 rfl)
 by_cases h5:s.tok.text.toList=[105,102]
 ·exact ztv d hd HBl C bl hbl w s x xb dv ptrs E T X hhas hB hrb hat h0 (zay h5 rfl) (zay h5 rfl) (zay h5 rfl) (zay h5 rfl) (zh4 h5) (zay h5 rfl) (zay h5 rfl)
 by_cases h6:s.tok.text.toList=[119,104,105,108,101]
 ·exact zub d hd HBl C bl hbl w s x xb dv ptrs E T X hhas hB hrb hat h0 (zay h6 rfl) (zay h6 rfl) (zay h6 rfl) (zay h6 rfl) (zay h6 rfl) (zh4 h6) (zay h6 rfl)
 by_cases h7:s.tok.text.toList=[103,111]
 ·exact zwp d bl C w s x xb dv ptrs E T X hB hrb (zay h7 rfl) (zay h7 rfl) (zay h7 rfl) (zay h7 rfl) (zay h7 rfl) (zay h7 rfl) (zh4 h7)
 exact zxa d bl C w s x xb dv ptrs E T X hB hrb (by simpa using h1) (by simpa using h2) (by simpa using h3) (by simpa using h4) (by simpa using h5) (by simpa using h6) (by simpa using h7)
theorem zvt (n:Nat):∀ d,7≤d+n→zhd d:=by
 induction n with
 | zero=>exact fun d hd=>zps d fun h=>by omega
 | succ n ih=>exact fun d hd=>zps d fun h=>stmt_any d h (zvh d h (ih (d+1) (by omega)))
theorem zx4 (d:Nat):zhd d:=zvt 7 d (by omega)
end
section
open Go.RowKit
def zar (d:Dcl)(pv bv:Value):List Value:=[.int .u8 d.kind.toNat,.string d.name.text,.int .i64 d.name.at_,.bool d.name.num,.int .i64 d.name.n,pv,bv]
def zb2 (w:World)(B:Nat):List (Value×Value)→List Dcl→Prop
 | [],[]=>True
 | p::ps,d::ds=>zbs w B p.1 d.params∧zbe w B p.2 d.body∧zb2 w B ps ds
 | _,_=>False
def ze1 (ps:List (Value×Value))(ds:List Dcl):List Value:=(List.zipWith (fun p d=>zar d p.1 p.2) ps ds).flatten
def DvAt (C:PC)(w:World)(dv:Value)(ds:List Dcl):Prop :=
 ∃ ps,w.ownsRow C.B 223 7 dv ds.length (ze1 ps ds)∧zb2 w C.B ps ds
theorem zb2.length {w:World}{B:Nat}:∀ {ps:List (Value×Value)} {ds:List Dcl},zb2 w B ps ds→ps.length=ds.length
 | [],[],_=>rfl
 | [],_::_,h=>h.elim
 | _::_,[],h=>h.elim
 | _::_,_::_,h=>by simp[zb2.length h.2.2]
theorem zb2.append {w:World}{B:Nat}{p:Value×Value}{d:Dcl}:∀ {ps:List (Value×Value)} {ds:List Dcl},zb2 w B ps ds→zbs w B p.1 d.params→zbe w B p.2 d.body→zb2 w B (ps++[p]) (ds++[d])
 | [],[],_,h1,h2=>⟨h1,h2,trivial⟩
 | [],_::_,h,_,_=>h.elim
 | _::_,[],h,_,_=>h.elim
 | _::_,_::_,h,h1,h2=>⟨h.1,h.2.1,zb2.append h.2.2 h1 h2⟩
theorem zb2.map {w w1:World}{B:Nat}(hN:∀ v l,zbs w B v l→zbs w1 B v l)(hI:∀ v l,zbe w B v l→zbe w1 B v l):∀ {ps:List (Value×Value)} {ds:List Dcl},zb2 w B ps ds→zb2 w1 B ps ds
 | [],[],_=>trivial
 | [],_::_,h=>h.elim
 | _::_,[],h=>h.elim
 | _::_,_::_,h=>⟨hN _ _ h.1,hI _ _ h.2.1,zb2.map hN hI h.2.2⟩
theorem zs9 {ps:List (Value×Value)}{ds:List Dcl}(h:ps.length=ds.length)(p:Value×Value)(d:Dcl):ze1 (ps++[p]) (ds++[d])=ze1 ps ds++zar d p.1 p.2:=by
 unfold ze1
 rw[List.zipWith_append (h:=h)]
 simp
theorem zu9:(Tryz.prog.info? 223).map (fun i=>(i.zero,i.size,i.bytes))=some (some (.agg #[.int .u8 0,.string ByteArray.empty,.int .i64 0,.bool false,.int .i64 0,.slice none 0 0,.slice none 0 0]),7,96):=by kernel_rfl
theorem znj:zbl Tryz.prog 215 223 7 96:=zbl.mk' Tryz.underlying215 zu9 rfl (by omega) (by omega)
theorem zhg {w w1:World}{B B' e e' n m size size':Nat}{v u:Value}{ys zs:List Value}(hown:w.ownsRow B e size v n ys)(hg:w.grownBy w1 v.ownBlock)(hne:e≠e')(h:w.ownsRow B' e' size' u m zs):w1.ownsRow B' e' size' u m zs:=by
 refine h.kept hg ?_
 rcases h.2 with⟨rfl,_⟩ | ⟨g',cap',cur,rfl,_,hh,_⟩
 ·exact .inl rfl
 ·right
  intro he
  exact zc3 hown (g:=g') (cs:=cur) hh hne g' (by rw[← he];rfl) rfl
theorem zad.row {w w1:World}{B B' xb e n size:Nat}{x:Stm}{v:Value}{ys:List Value}(h:zad w B xb x)(hown:w.ownsRow B' e size v n ys)(hg:w.grownBy w1 v.ownBlock)(h1:e≠439)(h2:e≠220)(h3:e≠3):zad w1 B xb x:=by
 obtain⟨av,bv,ev,h0,k1,k2,k3⟩:=h
 exact⟨av,bv,ev,h0.append hown hg h1,zhg hown hg h2 k1,zhg hown hg h3 k2,zhg hown hg h3 k3⟩
theorem zad.farT {w:World}{B xb g:Nat}{t:TypeId}{cs:Array Value}{x:Stm}(h:zad w B xb x)(hg:Blk w g t cs)(h1:t≠439)(h2:t≠220)(h3:t≠3)(i:Nat)(u:Value):zad (w.setCell ⟨g,i,none⟩ u) B xb x:=by
 obtain⟨av,bv,ev,h0,k1,k2,k3⟩:=h
 exact⟨av,bv,ev,h0.far (h0.ne_ hg (fun e=>h1 e.symm)) _,zaj k1 hg (fun e=>h2 e.symm) _ _,zaj k2 hg (fun e=>h3 e.symm) _ _,zaj k3 hg (fun e=>h3 e.symm) _ _⟩
structure DRead (C:PC)(w w1:World)(s:Sc)(dv:Value)(ds:List Dcl)(ptrs news:List Nat)(xs:List Stm)(db:Nat)(d:Dcl)(pv bv:Value):Prop where
 e:Env C w1 s
 tr:TrAt C w1 dv (ptrs++news)
 dv:DvAt C w1 dv ds
 st:zav w1 w.heap.size news xs
 blk:Blk w1 db 223 (zar d pv bv).toArray
 db:w.heap.size≤db
 n:zbs w1 C.B pv d.params
 i:zbe w1 C.B bv d.body
 c:Chg C.B [398,223] [C.sb,C.tb] w w1
def DDone (C:PC)(w:World)(ds:List Dcl)(ptrs:List Nat)(xs:List Stm)(d:Dcl)(s:Sc)(w':World):Prop :=
 ∃ dv news,Env C w' s∧TrAt C w' dv (ptrs++news)∧DvAt C w' dv (ds++[d])∧zav w' w.heap.size news xs
theorem zm4 {C:PC}{w w1 w2:World}{s:Sc}{da:Option Addr}{dc g cap:Nat}{ds:List Dcl}{ptrs news:List Nat}{xs:List Stm}{db:Nat}{d:Dcl}{pv bv sv:Value}{ps:List (Value×Value)}{o:Obj}
  (D:DRead C w w1 s (.slice da ds.length dc) ds ptrs news xs db d pv bv) (T:Blk w1 C.tb 218 #[.slice da ds.length dc,sv]) (TR:w1.ownsRow C.B 398 1 sv (ptrs++news).length ((ptrs++news).map ptrV))
  (DR:w1.ownsRow C.B 223 7 (.slice da ds.length dc) ds.length (ze1 ps ds)) (DD:zb2 w1 C.B ps ds)
  (hrow:w2.ownsRow C.B 223 7 (.slice (some ⟨g,0,none⟩) (ds.length+1) cap) (ds.length+1) (ze1 ps ds++zar d pv bv)) (hg:(w1.drew.alloc o).grownBy w2 (Value.slice da ds.length dc).ownBlock) :
  DDone C w ds ptrs xs d s (w2.setCell ⟨C.tb,0,none⟩ (.slice (some ⟨g,0,none⟩) (ds.length+1) cap))∧Chg C.B [398,223] [C.sb,C.tb] w (w2.setCell ⟨C.tb,0,none⟩ (.slice (some ⟨g,0,none⟩) (ds.length+1) cap)):=by
 have R':=(za2 DR).alloc o
 have T2:=Blk.append ((T.drew).alloc o) R' hg (by decide)
 have E2:=Env.append ((D.e.drew).alloc o) R' hg (by decide) (by decide)
 have C2:=Chg.append ((D.c.drew).alloc o) R' hg (Nat.le_refl _) (.inl (by simp))
 have TR2:=zaj (zhg R' hg (by decide) ((za2 TR).alloc o)) T2 (by decide) 0 (.slice (some ⟨g,0,none⟩) (ds.length+1) cap)
 have hN:∀ v l,zbs w1 C.B v l→zbs (w2.setCell ⟨C.tb,0,none⟩ (.slice (some ⟨g,0,none⟩) (ds.length+1) cap)) C.B v l:=fun v l h=>zaj (zhg R' hg (by decide) ((za2 h).alloc o)) T2 (by decide) 0 _
 have hI:∀ v l,zbe w1 C.B v l→zbe (w2.setCell ⟨C.tb,0,none⟩ (.slice (some ⟨g,0,none⟩) (ds.length+1) cap)) C.B v l:=fun v l h=>zaj (zhg R' hg (by decide) ((za2 h).alloc o)) T2 (by decide) 0 _
 have hlen:=DD.length
 refine⟨⟨_,news,E2.farT T2 (by decide) (by decide) _ _,⟨sv,(T2.set_ 0 _).cast (by simp;rfl),TR2⟩,⟨ps++[(pv,bv)],?_,(DD.map hN hI).append (hN _ _ D.n) (hI _ _ D.i)⟩,?_⟩,C2.setX D.e.bt (by simp) _⟩
 ·rw[zs9 hlen,List.length_append]
  exact zaj hrow T2 (by decide) 0 _
 ·refine D.st.map (Nat.le_refl _) fun b y _ _ h=>?_
  exact((zad.alloc (show zad w1.drew _ b y from h) o).row R' hg (by decide) (by decide) (by decide)).farT T2 (by decide) (by decide) (by decide) _ _
structure DEnv (C:PC)(ts:List TypeId)(bs:List Nat)(w0 w:World)(s:Sc)(db:Nat)(d:Dcl)(pv bv:Value):Prop where
 e:Env C w s
 blk:Blk w db 223 (zar d pv bv).toArray
 db:w0.heap.size≤db
 c:Chg C.B ts bs w0 w
section
variable {C:PC} {ts:List TypeId} {bs:List Nat} {w0 w w1:World} {s s1:Sc} {db:Nat} {d:Dcl} {pv bv:Value}
theorem DEnv.scan (D:DEnv C ts bs w0 w s db d pv bv)(E:Env C w1 s1)(hc:Chg C.B [] [C.sb] w w1)(hs:C.sb ∈ bs):DEnv C ts bs w0 w1 s1 db d pv bv :=
 ⟨E,D.blk.chg hc (by simp) (by
  intro hm
  rw[List.mem_singleton.1 hm]at D
  exact(Blk.ne_ D.e.sc D.blk (by decide)) rfl),D.db,D.c.trans (hc.mono (by simp) (by simpa using hs))⟩
theorem DEnv.store (D:DEnv C ts bs w0 w s db d pv bv)(i:Nat)(u:Value){d':Dcl}{pv' bv':Value}(h:(zar d pv bv).toArray.setIfInBounds i u=(zar d' pv' bv').toArray):DEnv C ts bs w0 (w.setCell ⟨db,i,none⟩ u) s db d' pv' bv' :=
 ⟨D.e.farT D.blk (by decide) (by decide) _ _,(D.blk.set_ i u).cast h,D.db,D.c.setNew D.db _⟩
theorem DEnv.setKind (D:DEnv C ts bs w0 w s db d pv bv)(k:UInt8):DEnv C ts bs w0 (w.setCell ⟨db,0,none⟩ (.int .u8 k.toNat)) s db { d with kind:=k } pv bv:=D.store 0 _ (by simp[zar])
theorem DEnv.setParams (D:DEnv C ts bs w0 w s db d pv bv)(v:Value)(l:List Nm):DEnv C ts bs w0 (w.setCell ⟨db,5,none⟩ v) s db { d with params:=l } v bv:=D.store 5 _ (by simp[zar])
theorem DEnv.setBody (D:DEnv C ts bs w0 w s db d pv bv)(v:Value)(l:List Nat):DEnv C ts bs w0 (w.setCell ⟨db,6,none⟩ v) s db { d with body:=l } pv v:=D.store 6 _ (by simp[zar])
theorem DEnv.setName (D:DEnv C ts bs w0 w s db d pv bv)(n:Nm):DEnv C ts bs w0 ((((w.setCell ⟨db,1,none⟩ (.string n.text)).setCell ⟨db,2,none⟩ (.int .i64 n.at_)).setCell ⟨db,3,none⟩ (.bool n.num)).setCell ⟨db,4,none⟩ (.int .i64 n.n)) s db { d with name:=n } pv bv :=
 (((D.store (pv':=pv) (bv':=bv) (d':={ d with name:={ d.name with text:=n.text } }) 1 _ (by simp[zar])).store (pv':=pv) (bv':=bv) (d':={ d with name:={ d.name with text:=n.text,at_:=n.at_ } }) 2 _ (by simp[zar])).store (pv':=pv) (bv':=bv) (d':={ d with name:={ d.name with text:=n.text,at_:=n.at_,num:=n.num } }) 3 _ (by simp[zar])).store (pv':=pv) (bv':=bv) (d':={ d with name:=n }) 4 _ (by simp[zar])
theorem DEnv.cells (D:DEnv C ts bs w0 w s db d pv bv):(∀ i,w.cell? ⟨C.pb,i,none⟩=#[.pointer (some ⟨C.sb,0,none⟩),.pointer (some ⟨C.tb,0,none⟩)][i]?) ∧
  (∀ i,w.cell? ⟨db,i,none⟩=#[.int .u8 d.kind.toNat,.string d.name.text,.int .i64 d.name.at_,.bool d.name.num,.int .i64 d.name.n,pv,bv][i]?)∧(∀ i,w.frozen? ⟨db,i,none⟩=false)∧C.pb<w.heap.size∧C.sb<w.heap.size∧db<w.heap.size∧C.pb≠db∧C.sb≠db :=
 ⟨D.e.p.cell,D.blk.cell,D.blk.frozen,D.e.p.lt,Blk.lt D.e.sc,D.blk.lt,D.e.p.ne_ D.blk (by decide),Blk.ne_ D.e.sc D.blk (by decide)⟩
theorem DvAt.chg {dv:Value}{ds:List Dcl}(h:DvAt C w dv ds)(hc:Chg C.B ts bs w w1)(h1:223 ∉ ts)(h2:220 ∉ ts)(h3:3 ∉ ts)
  (hx:∀ g ∈ bs,∃ t cs,Blk w g t cs∧t≠223∧t≠220∧t≠3):DvAt C w1 dv ds:=by
 obtain⟨ps,hr,hd⟩:=h
 refine⟨ps,zcs hr hc h1 ?_,hd.map (fun v l h=>zcs h hc h2 ?_) (fun v l h=>zcs h hc h3 ?_)⟩
 ·intro k hk hm
  obtain⟨t,cs,h4,h5,_,_⟩:=hx _ hm
  exact zc3 hr h4 (fun e=>h5 e.symm) k hk rfl
 ·intro k hk hm
  obtain⟨t,cs,h4,_,h5,_⟩:=hx _ hm
  exact zc3 h h4 (fun e=>h5 e.symm) k hk rfl
 ·intro k hk hm
  obtain⟨t,cs,h4,_,_,h5⟩:=hx _ hm
  exact zc3 h h4 (fun e=>h5 e.symm) k hk rfl
end
theorem DEnv.read {C:PC}{w0 w:World}{s s0:Sc}{db:Nat}{d:Dcl}{dv:Value}{ds:List Dcl}{ptrs:List Nat}(D:DEnv C [] [C.sb] w0 w s db d (.slice none 0 0) (.slice none 0 0))(T:TrAt C w0 dv ptrs)(V:DvAt C w0 dv ds)(E:Env C w0 s0)(hp:d.params=[]:=by rfl)(hb:d.body=[]:=by rfl) :
  DRead C w0 w s dv ds ptrs [] [] db d (.slice none 0 0) (.slice none 0 0):=by
 have hx:∀ g ∈ [C.sb],∃ t cs,Blk w0 g t cs∧t=319:=by
  intro g hg
  rw[List.mem_singleton.1 hg]
  exact⟨_,_,E.sc,rfl⟩
 refine⟨D.e,?_,V.chg D.c (by simp) (by simp) (by simp) (fun g hg=>?_),trivial,D.blk,D.db,by rw[hp];exact World.ownsRow_nil _ _ _ _,by rw[hb];exact World.ownsRow_nil _ _ _ _,D.c.mono (by simp) (by simp)⟩
 ·rw[List.append_nil]
  refine T.chg D.c (by simp) (by simp) (fun g hg=>?_)
  obtain⟨t,cs,h1,rfl⟩:=hx g hg
  exact⟨_,_,h1,by decide,by decide⟩
 ·obtain⟨t,cs,h1,rfl⟩:=hx g hg
  exact⟨_,_,h1,by decide,by decide,by decide⟩
end
end Go.Proofs.YtkmcihhndgdhpaaGreat
