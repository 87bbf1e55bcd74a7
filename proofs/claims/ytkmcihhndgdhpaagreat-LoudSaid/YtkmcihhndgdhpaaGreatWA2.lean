/- Stmt1 Stmt2 Stmt3 Tree Branch Worded Worded2 BlockA StmtA Block: parts of the walk. -/
import Derived.Test.YtkmcihhndgdhpaaGreatWA1
import Derived.Deep.RegionLaw
import Derived.Deep.DeepCutAuto
set_option maxRecDepth 100000
set_option maxHeartbeats 4000000
set_option linter.unusedSimpArgs false
set_option linter.unusedVariables false
namespace Go.Proofs.YtkmcihhndgdhpaaGreat
section
open Go.RowKit
attribute [local go_sem] zaq
theorem zat {w:World}{B:Nat}{e:TypeId}{size:Nat}{v:Value}{n:Nat}{xs:List Value}(h:w.ownsRow B e size v n xs):∃ a c,v=.slice a n c:=by
 rcases h.2 with⟨rfl,rfl⟩ | ⟨g,cap,cur,rfl,_⟩
 ·exact⟨_,_,rfl⟩
 ·exact⟨_,_,rfl⟩
theorem zi7 (a:ByteArray)(l:List UInt8):(a.toList==l)=eqB a (bytes l):=by rw[ByteArray.toList_eq];rfl
theorem u8_ne {a b:UInt8}(h:a≠b):((a.toNat:Int)==(b.toNat:Int))=false:=zai fun e=>h (UInt8.toNat_inj.1 (by omega))
def zbp (C:PC)(xb:Nat)(w:World)(M:Except Flt (Stm×Sc)):Ending→World→Prop :=
 Post C.B [] [C.sb,xb] w M (fun p v w'=>v=.tuple #[]∧Env C w' p.2∧zad w' C.rb xb p.1)
theorem zbp.done {C:PC}{xb:Nat}{w w1:World}{M:Except Flt (Stm×Sc)}{s:Sc}{x:Stm}(S:SEnv C xb w w1 s x)(hM:M=.ok (x,s)):zbp C xb w M (.returned (.tuple #[])) w1 :=
 .inl ⟨(x,s),_,hM,rfl,⟨rfl,S.e,S.x⟩,S.c⟩
theorem SEnv.start {C:PC}{xb:Nat}{w:World}{s:Sc}{x:Stm}(E:Env C w s)(X:zad w C.rb xb x)(hB:C.B≤xb)(hrb:C.rb≤w.heap.size):SEnv C xb w w s x:=⟨E,X,hrb,Chg.refl _ _ _ _,hB⟩
theorem zph (C:PC)(xb:Nat)(w:World)(s:Sc)(x:Stm)(E:Env C w s)(X:zad w C.rb xb x)(hB:C.B≤xb)(hrb:C.rb≤w.heap.size) :
  Calls Tryz.prog 316 #[.pointer (some ⟨C.pb,0,none⟩),.pointer (some ⟨xb,0,none⟩)] w (zbp C xb w (zg4 C.t s x)):=by
 have S0:=zH (SEnv.start E X hB hrb)
 have MD0:=zH (zg4.eq_1 C.t s x)
 obtain⟨hp0,hs0,hx0⟩:=S0.out.cells
 obtain⟨av0,bv0,ev0,hy0,_⟩:=S0.out.x.cells
 clear E X
 go_enter Tryz.func316,Tryz.ntmps316
 go_wp2_with fail
 refine(zf8 S0.out.e).mono ?_
 rintro e w1 (⟨p1,v,hr,rfl,⟨rfl,hE⟩,hch⟩ | ⟨f,b,hr,rfl,hfb,hle,hch⟩)
 rotate_left
 ·exact⟨rfl,S0.out.fault (by have md:=MD0.out;rw[hr]at md;exact md) hfb hle hch⟩
 have R1:=zH hr
 have md:=MD0.out
 rw[hr,zae]at md
 have MD1:=zH md
 have S1:=zH (S0.out.scan hE hch)
 obtain⟨hp1,hs1,hx1⟩:=S1.out.cells
 obtain⟨av1,bv1,ev1,hy1,_⟩:=S1.out.x.cells
 obtain⟨hl1,hm1,hn1⟩:=S1.out.lts
 clear hr hE hch md
 go_wp2_with fail
 refine zag (fun W=>SEnv C xb w W p1.2 { x with f:=p1.1 }) (S1.out.setF _) ?_
 intro w2 hS2
 have S2:=zH hS2
 obtain⟨hp2,hs2,hx2⟩:=hS2.cells
 obtain⟨av2,bv2,ev2,hy2,_⟩:=hS2.x.cells
 clear hS2
 refine(zcu S2.out.e 40).mono ?_
 rintro e w3 (⟨p3,v,hr,rfl,⟨rfl,hE⟩,hch⟩ | ⟨f,b,hr,rfl,hfb,hle,hch⟩)
 rotate_left
 ·exact⟨rfl,S2.out.fault (by have md:=MD1.out;rw[hr]at md;exact md) hfb hle hch⟩
 have R3:=zH hr
 have md:=MD1.out
 rw[hr,zae]at md
 have MD2:=zH md
 have S3:=zH (S2.out.scan hE hch)
 obtain⟨hp3,hs3,hx3⟩:=S3.out.cells
 obtain⟨av3,bv3,ev3,hy3,_⟩:=S3.out.x.cells
 obtain⟨hl3,hm3,hn3⟩:=S3.out.lts
 clear hr hE hch md
 go_wp2_with fail
 refine(zjn C _ _ true S3.out.e).mono ?_
 rintro e w4 (⟨p4,v4,hr,rfl,⟨hN,hE⟩,hch⟩ | ⟨f,b,hr,rfl,hfb,hle,hch⟩)
 rotate_left
 ·exact⟨rfl,S3.out.fault (by have md:=MD2.out;rw[hr]at md;exact md) hfb hle hch⟩
 have R4:=zH hr
 have md:=MD2.out
 rw[hr,zae]at md
 have MD3:=zH md
 have N4:=zH (show zbs w4 C.rb v4 p4.1 from zbn hN S3.out.rbw)
 obtain⟨a4,c4,hv⟩:=zat hN
 subst hv
 have S4:=zH (S3.out.scan hE hch)
 obtain⟨hp4,hs4,hx4⟩:=S4.out.cells
 obtain⟨av4,bv4,ev4,hy4,_⟩:=S4.out.x.cells
 obtain⟨hl4,hm4,hn4⟩:=S4.out.lts
 clear hr hE hch md hN
 go_wp2_with fail
 go_end0
 exact zbp.done (S4.out.setArgs N4.out) MD3.out
theorem zo5 (C:PC)(w:World)(s:Sc)(E:Env C w s) :
  Calls Tryz.prog 317 #[.pointer (some ⟨C.pb,0,none⟩)] w (Post C.B [] [C.sb] w (zfz C.t s) (fun p v w'=>v=.int .i64 p.1∧Env C w' p.2)):=by
 have HE:=zH E
 have MD0:=zH (zfz.eq_1 C.t s)
 have hp0:=E.p.cell
 clear E
 go_enter Tryz.func317,Tryz.ntmps317
 go_wp2_with fail
 refine(zf8 HE.out).mono ?_
 rintro e w1 (⟨p,v,hr,rfl,⟨rfl,hE⟩,hch⟩ | ⟨f,b,hr,rfl,hfb,hle,hch⟩)
 rotate_left
 ·exact⟨rfl,.inr ⟨f,b,by have md:=MD0.out;rw[hr]at md;exact md,rfl,hfb,hle,hch⟩⟩
 have md:=MD0.out
 rw[hr,zae]at md
 have HE1:=zH hE
 have HC:=zH hch
 clear hr hE hch
 cases h1:eqB p.1.text wL
 ·cases h2:eqB p.1.text wR
  ·have q1:(p.1.text.toList==[108])=false:=(zi7 _ _).trans h1
   have q2:(p.1.text.toList==[114])=false:=(zi7 _ _).trans h2
   rw[h1,if_neg (by simp),h2,if_neg (by simp)]at md
   have MD:=zH md
   clear md h1 h2
   go_wp2_with (go_at_call 157;refine(zfb _ _ _).mono ?_;rintro e w4 ⟨rfl,rfl⟩)
   exact⟨rfl,.inr ⟨_,_,MD.out,rfl,za1.new (by simp),Nat.le_succ_of_le HC.out.size,(HC.out.alloc _).alloc _⟩⟩
  ·have q1:(p.1.text.toList==[108])=false:=(zi7 _ _).trans h1
   have q2:(p.1.text.toList==[114])=true:=(zi7 _ _).trans h2
   rw[h1,if_neg (by simp),h2,if_pos rfl]at md
   have MD:=zH md
   clear md h1 h2
   go_wp2_with fail
   go_ret
   exact .inl ⟨(1,p.2),_,MD.out,rfl,⟨rfl,HE1.out.alloc _⟩,HC.out.alloc _⟩
 ·have q1:(p.1.text.toList==[108])=true:=(zi7 _ _).trans h1
  have q2:(p.1.text.toList==[114])=false:=by
   have:p.1.text.toList=[108]:=by simpa using q1
   rw[this];rfl
  rw[h1,if_pos rfl]at md
  have MD:=zH md
  clear md h1
  go_wp2_with fail
  go_ret
  exact .inl ⟨(0,p.2),_,MD.out,rfl,⟨rfl,HE1.out.alloc _⟩,HC.out.alloc _⟩
theorem zo7 (C:PC)(xb:Nat)(w:World)(s:Sc)(x:Stm)(E:Env C w s)(X:zad w C.rb xb x)(hB:C.B≤xb)(hrb:C.rb≤w.heap.size)(hk:s.kind≠3∨(s.sign≠43∧s.sign≠45∧s.sign≠60∧s.sign≠101))(hM:zbw C.t s x=.ok (x,s)) :
  Calls Tryz.prog 319 #[.pointer (some ⟨C.pb,0,none⟩),.pointer (some ⟨xb,0,none⟩)] w (zbp C xb w (zbw C.t s x)):=by
 have S0:=zH (SEnv.start E X hB hrb)
 have MD0:=zH hM
 obtain⟨hp0,hs0,hx0⟩:=S0.out.cells
 clear E X hM
 by_cases hk3:s.kind=3
 ·have k1:((s.kind:Int)==3)=true:=by rw[hk3];rfl
  have k2:((s.kind:Int) != 3)=false:=by rw[hk3];rfl
  have hk':=hk.resolve_left (fun h=>h hk3)
  have n1:((s.sign.toNat:Int)==43)=false:=u8_ne hk'.1
  have n2:((s.sign.toNat:Int)==45)=false:=u8_ne hk'.2.1
  have n3:((s.sign.toNat:Int)==60)=false:=u8_ne hk'.2.2.1
  have n4:((s.sign.toNat:Int)==101)=false:=u8_ne hk'.2.2.2
  clear hk hk3 hk'
  go_enter Tryz.func319,Tryz.ntmps319
  go_wp2_with fail
  refine bodyPost_ret (results_none rfl _ _ _) rfl ?_
  exact zbp.done S0.out MD0.out
 ·have k1:((s.kind:Int)==3)=false:=zai (by omega)
  have k2:((s.kind:Int) != 3)=true:=bne_iff_ne.2 (by omega)
  clear hk hk3
  go_enter Tryz.func319,Tryz.ntmps319
  go_wp2_with fail
  refine bodyPost_ret (results_none rfl _ _ _) rfl ?_
  exact zbp.done S0.out MD0.out
theorem zuk (C:PC)(xb:Nat)(w:World)(s:Sc)(x:Stm)(E:Env C w s)(X:zad w C.rb xb x)(hB:C.B≤xb)(hrb:C.rb≤w.heap.size)(hk3:s.kind=3)(hsg:s.sign=43) :
  Calls Tryz.prog 319 #[.pointer (some ⟨C.pb,0,none⟩),.pointer (some ⟨xb,0,none⟩)] w (zbp C xb w (zbw C.t s x)):=by
 have S0:=zH (SEnv.start E X hB hrb)
 have MD0:=zH (show zbw C.t s x=zab (zam C.t s) fun s1=>zab (zco C.t s1) fun p=>.ok ({ x with bin:=1,z:=p.1 },p.2) by
  unfold zbw;rw[if_pos hk3,hsg];rfl)
 obtain⟨hp0,hs0,hx0⟩:=S0.out.cells
 obtain⟨av0,bv0,ev0,hy0,_⟩:=S0.out.x.cells
 have k1:((s.kind:Int)==3)=true:=by rw[hk3];rfl
 have k2:((s.kind:Int) != 3)=false:=by rw[hk3];rfl
 have k3:(s.sign.toNat:Int)=43:=by rw[hsg];rfl
 clear E X hk3 hsg
 go_enter Tryz.func319,Tryz.ntmps319
 go_wp2_with fail
 refine zag (fun W=>SEnv C xb w W s { x with bin:=1 }) (S0.out.setBin 1) ?_
 intro w2 hS2
 have S2:=zH hS2
 obtain⟨hp2,hs2,hx2⟩:=hS2.cells
 obtain⟨av2,bv2,ev2,hy2,_⟩:=hS2.x.cells
 clear hS2
 refine(zck S2.out.e).mono ?_
 rintro e w3 (⟨p3,v,hr,rfl,⟨rfl,hE⟩,hch⟩ | ⟨f,b,hr,rfl,hfb,hle,hch⟩)
 rotate_left
 ·exact⟨rfl,S2.out.fault (by have md:=MD0.out;rw[hr]at md;exact md) hfb hle hch⟩
 have R3:=zH hr
 have md:=MD0.out
 rw[hr,zae]at md
 have MD1:=zH md
 have S3:=zH (S2.out.scan hE hch)
 obtain⟨hp3,hs3,hx3⟩:=S3.out.cells
 obtain⟨av3,bv3,ev3,hy3,_⟩:=S3.out.x.cells
 obtain⟨hl3,hm3,hn3⟩:=S3.out.lts
 clear hr hE hch md
 go_wp2_with fail
 refine(zgt S3.out.e).mono ?_
 rintro e w4 (⟨p4,v,hr,rfl,⟨rfl,hE⟩,hch⟩ | ⟨f,b,hr,rfl,hfb,hle,hch⟩)
 rotate_left
 ·exact⟨rfl,S3.out.fault (by have md:=MD1.out;rw[hr]at md;exact md) hfb hle hch⟩
 have R4:=zH hr
 have md:=MD1.out
 rw[hr,zae]at md
 have MD2:=zH md
 have S4:=zH (S3.out.scan hE hch)
 obtain⟨hp4,hs4,hx4⟩:=S4.out.cells
 obtain⟨av4,bv4,ev4,hy4,_⟩:=S4.out.x.cells
 obtain⟨hl4,hm4,hn4⟩:=S4.out.lts
 clear hr hE hch md
 go_wp2_with fail
 go_end0
 exact zbp.done (S4.out.setZ p4.1) MD2.out
theorem zxo (C:PC)(xb:Nat)(w:World)(s:Sc)(x:Stm)(E:Env C w s)(X:zad w C.rb xb x)(hB:C.B≤xb)(hrb:C.rb≤w.heap.size)(hk3:s.kind=3)(hsg:s.sign=45) :
  Calls Tryz.prog 319 #[.pointer (some ⟨C.pb,0,none⟩),.pointer (some ⟨xb,0,none⟩)] w (zbp C xb w (zbw C.t s x)):=by
 have S0:=zH (SEnv.start E X hB hrb)
 have MD0:=zH (show zbw C.t s x=zab (zam C.t s) fun s1=>zab (zco C.t s1) fun p=>.ok ({ x with bin:=2,z:=p.1 },p.2) by
  unfold zbw;rw[if_pos hk3,hsg];rfl)
 obtain⟨hp0,hs0,hx0⟩:=S0.out.cells
 obtain⟨av0,bv0,ev0,hy0,_⟩:=S0.out.x.cells
 have k1:((s.kind:Int)==3)=true:=by rw[hk3];rfl
 have k2:((s.kind:Int) != 3)=false:=by rw[hk3];rfl
 have k3:(s.sign.toNat:Int)=45:=by rw[hsg];rfl
 clear E X hk3 hsg
 go_enter Tryz.func319,Tryz.ntmps319
 go_wp2_with fail
 refine zag (fun W=>SEnv C xb w W s { x with bin:=2 }) (S0.out.setBin 2) ?_
 intro w2 hS2
 have S2:=zH hS2
 obtain⟨hp2,hs2,hx2⟩:=hS2.cells
 obtain⟨av2,bv2,ev2,hy2,_⟩:=hS2.x.cells
 clear hS2
 refine(zck S2.out.e).mono ?_
 rintro e w3 (⟨p3,v,hr,rfl,⟨rfl,hE⟩,hch⟩ | ⟨f,b,hr,rfl,hfb,hle,hch⟩)
 rotate_left
 ·exact⟨rfl,S2.out.fault (by have md:=MD0.out;rw[hr]at md;exact md) hfb hle hch⟩
 have R3:=zH hr
 have md:=MD0.out
 rw[hr,zae]at md
 have MD1:=zH md
 have S3:=zH (S2.out.scan hE hch)
 obtain⟨hp3,hs3,hx3⟩:=S3.out.cells
 obtain⟨av3,bv3,ev3,hy3,_⟩:=S3.out.x.cells
 obtain⟨hl3,hm3,hn3⟩:=S3.out.lts
 clear hr hE hch md
 go_wp2_with fail
 refine(zgt S3.out.e).mono ?_
 rintro e w4 (⟨p4,v,hr,rfl,⟨rfl,hE⟩,hch⟩ | ⟨f,b,hr,rfl,hfb,hle,hch⟩)
 rotate_left
 ·exact⟨rfl,S3.out.fault (by have md:=MD1.out;rw[hr]at md;exact md) hfb hle hch⟩
 have R4:=zH hr
 have md:=MD1.out
 rw[hr,zae]at md
 have MD2:=zH md
 have S4:=zH (S3.out.scan hE hch)
 obtain⟨hp4,hs4,hx4⟩:=S4.out.cells
 obtain⟨av4,bv4,ev4,hy4,_⟩:=S4.out.x.cells
 obtain⟨hl4,hm4,hn4⟩:=S4.out.lts
 clear hr hE hch md
 go_wp2_with fail
 go_end0
 exact zbp.done (S4.out.setZ p4.1) MD2.out
theorem zxk (C:PC)(xb:Nat)(w:World)(s:Sc)(x:Stm)(E:Env C w s)(X:zad w C.rb xb x)(hB:C.B≤xb)(hrb:C.rb≤w.heap.size)(hk3:s.kind=3)(hsg:s.sign=60) :
  Calls Tryz.prog 319 #[.pointer (some ⟨C.pb,0,none⟩),.pointer (some ⟨xb,0,none⟩)] w (zbp C xb w (zbw C.t s x)):=by
 have S0:=zH (SEnv.start E X hB hrb)
 have MD0:=zH (show zbw C.t s x=zab (zam C.t s) fun s1=>zab (zco C.t s1) fun p=>.ok ({ x with bin:=3,z:=p.1 },p.2) by
  unfold zbw;rw[if_pos hk3,hsg];rfl)
 obtain⟨hp0,hs0,hx0⟩:=S0.out.cells
 obtain⟨av0,bv0,ev0,hy0,_⟩:=S0.out.x.cells
 have k1:((s.kind:Int)==3)=true:=by rw[hk3];rfl
 have k2:((s.kind:Int) != 3)=false:=by rw[hk3];rfl
 have k3:(s.sign.toNat:Int)=60:=by rw[hsg];rfl
 clear E X hk3 hsg
 go_enter Tryz.func319,Tryz.ntmps319
 go_wp2_with fail
 refine zag (fun W=>SEnv C xb w W s { x with bin:=3 }) (S0.out.setBin 3) ?_
 intro w2 hS2
 have S2:=zH hS2
 obtain⟨hp2,hs2,hx2⟩:=hS2.cells
 obtain⟨av2,bv2,ev2,hy2,_⟩:=hS2.x.cells
 clear hS2
 refine(zck S2.out.e).mono ?_
 rintro e w3 (⟨p3,v,hr,rfl,⟨rfl,hE⟩,hch⟩ | ⟨f,b,hr,rfl,hfb,hle,hch⟩)
 rotate_left
 ·exact⟨rfl,S2.out.fault (by have md:=MD0.out;rw[hr]at md;exact md) hfb hle hch⟩
 have R3:=zH hr
 have md:=MD0.out
 rw[hr,zae]at md
 have MD1:=zH md
 have S3:=zH (S2.out.scan hE hch)
 obtain⟨hp3,hs3,hx3⟩:=S3.out.cells
 obtain⟨av3,bv3,ev3,hy3,_⟩:=S3.out.x.cells
 obtain⟨hl3,hm3,hn3⟩:=S3.out.lts
 clear hr hE hch md
 go_wp2_with fail
 refine(zgt S3.out.e).mono ?_
 rintro e w4 (⟨p4,v,hr,rfl,⟨rfl,hE⟩,hch⟩ | ⟨f,b,hr,rfl,hfb,hle,hch⟩)
 rotate_left
 ·exact⟨rfl,S3.out.fault (by have md:=MD1.out;rw[hr]at md;exact md) hfb hle hch⟩
 have R4:=zH hr
 have md:=MD1.out
 rw[hr,zae]at md
 have MD2:=zH md
 have S4:=zH (S3.out.scan hE hch)
 obtain⟨hp4,hs4,hx4⟩:=S4.out.cells
 obtain⟨av4,bv4,ev4,hy4,_⟩:=S4.out.x.cells
 obtain⟨hl4,hm4,hn4⟩:=S4.out.lts
 clear hr hE hch md
 go_wp2_with fail
 go_end0
 exact zbp.done (S4.out.setZ p4.1) MD2.out
theorem zu5 (C:PC)(xb:Nat)(w:World)(s:Sc)(x:Stm)(E:Env C w s)(X:zad w C.rb xb x)(hB:C.B≤xb)(hrb:C.rb≤w.heap.size)(hk3:s.kind=3)(hsg:s.sign=101) :
  Calls Tryz.prog 319 #[.pointer (some ⟨C.pb,0,none⟩),.pointer (some ⟨xb,0,none⟩)] w (zbp C xb w (zbw C.t s x)):=by
 have S0:=zH (SEnv.start E X hB hrb)
 have MD0:=zH (show zbw C.t s x=zab (zam C.t s) fun s1=>zab (zco C.t s1) fun p=>.ok ({ x with bin:=4,z:=p.1 },p.2) by
  unfold zbw;rw[if_pos hk3,hsg];rfl)
 obtain⟨hp0,hs0,hx0⟩:=S0.out.cells
 obtain⟨av0,bv0,ev0,hy0,_⟩:=S0.out.x.cells
 have k1:((s.kind:Int)==3)=true:=by rw[hk3];rfl
 have k2:((s.kind:Int) != 3)=false:=by rw[hk3];rfl
 have k3:(s.sign.toNat:Int)=101:=by rw[hsg];rfl
 clear E X hk3 hsg
 go_enter Tryz.func319,Tryz.ntmps319
 go_wp2_with fail
 refine zag (fun W=>SEnv C xb w W s { x with bin:=4 }) (S0.out.setBin 4) ?_
 intro w2 hS2
 have S2:=zH hS2
 obtain⟨hp2,hs2,hx2⟩:=hS2.cells
 obtain⟨av2,bv2,ev2,hy2,_⟩:=hS2.x.cells
 clear hS2
 refine(zck S2.out.e).mono ?_
 rintro e w3 (⟨p3,v,hr,rfl,⟨rfl,hE⟩,hch⟩ | ⟨f,b,hr,rfl,hfb,hle,hch⟩)
 rotate_left
 ·exact⟨rfl,S2.out.fault (by have md:=MD0.out;rw[hr]at md;exact md) hfb hle hch⟩
 have R3:=zH hr
 have md:=MD0.out
 rw[hr,zae]at md
 have MD1:=zH md
 have S3:=zH (S2.out.scan hE hch)
 obtain⟨hp3,hs3,hx3⟩:=S3.out.cells
 obtain⟨av3,bv3,ev3,hy3,_⟩:=S3.out.x.cells
 obtain⟨hl3,hm3,hn3⟩:=S3.out.lts
 clear hr hE hch md
 go_wp2_with fail
 refine(zgt S3.out.e).mono ?_
 rintro e w4 (⟨p4,v,hr,rfl,⟨rfl,hE⟩,hch⟩ | ⟨f,b,hr,rfl,hfb,hle,hch⟩)
 rotate_left
 ·exact⟨rfl,S3.out.fault (by have md:=MD1.out;rw[hr]at md;exact md) hfb hle hch⟩
 have R4:=zH hr
 have md:=MD1.out
 rw[hr,zae]at md
 have MD2:=zH md
 have S4:=zH (S3.out.scan hE hch)
 obtain⟨hp4,hs4,hx4⟩:=S4.out.cells
 obtain⟨av4,bv4,ev4,hy4,_⟩:=S4.out.x.cells
 obtain⟨hl4,hm4,hn4⟩:=S4.out.lts
 clear hr hE hch md
 go_wp2_with fail
 go_end0
 exact zbp.done (S4.out.setZ p4.1) MD2.out
theorem zki (C:PC)(xb:Nat)(w:World)(s:Sc)(x:Stm)(E:Env C w s)(X:zad w C.rb xb x)(hB:C.B≤xb)(hrb:C.rb≤w.heap.size) :
  Calls Tryz.prog 319 #[.pointer (some ⟨C.pb,0,none⟩),.pointer (some ⟨xb,0,none⟩)] w (zbp C xb w (zbw C.t s x)):=by
 by_cases hk:s.kind=3
 ·by_cases h1:s.sign=43
  ·exact zuk C xb w s x E X hB hrb hk h1
  by_cases h2:s.sign=45
  ·exact zxo C xb w s x E X hB hrb hk h2
  by_cases h3:s.sign=60
  ·exact zxk C xb w s x E X hB hrb hk h3
  by_cases h4:s.sign=101
  ·exact zu5 C xb w s x E X hB hrb hk h4
  exact zo7 C xb w s x E X hB hrb (.inr ⟨h1,h2,h3,h4⟩) (by unfold zbw;simp[hk,h1,h2,h3,h4])
 ·exact zo7 C xb w s x E X hB hrb (.inl hk) (by unfold zbw;simp[hk])
end
section
open Go.RowKit
attribute [local go_sem] zaq
theorem SEnv.alloc {C:PC}{xb:Nat}{w0 w:World}{s:Sc}{x:Stm}(S:SEnv C xb w0 w s x)(o:Obj):SEnv C xb w0 (w.alloc o) s x:=⟨S.e.alloc o,S.x.alloc o,Nat.le_trans S.rbw (by simp),S.c.alloc o,S.bx⟩
theorem SEnv.last {C:PC}{xb:Nat}{w0 w:World}{s:Sc}{x:Stm}(S:SEnv C xb w0 w s x){M M':Except Flt (Stm×Sc)}(hM:M=M'){e:Ending}{w':World}(h:zbp C xb w M' e w'):zbp C xb w0 M e w':=by
 subst hM
 rcases h with⟨p,v,h1,h2,h3,h4⟩ | ⟨f,b,h1,h2,h3,h4,h5⟩
 ·exact .inl ⟨p,v,h1,h2,h3,S.c.trans h4⟩
 ·exact .inr ⟨f,b,h1,h2,h3,Nat.le_trans S.c.size h4,S.c.trans h5⟩
theorem eqB_ne {a b c:ByteArray}(h:eqB a b=true)(hne:eqB b c=false):eqB a c=false:=by
 unfold eqB at *
 rw[beq_iff_eq]at h
 rw[h];exact hne
theorem zxq (C:PC)(xb:Nat)(w:World)(s:Sc)(x:Stm)(E:Env C w s)(X:zad w C.rb xb x)(hB:C.B≤xb)(hrb:C.rb≤w.heap.size)(hN:za5 s wNew=true) :
  Calls Tryz.prog 318 #[.pointer (some ⟨C.pb,0,none⟩),.pointer (some ⟨xb,0,none⟩)] w (zbp C xb w (zb9 C.t s x)):=by
 have MD0:=zH (show zb9 C.t s x=zab (zam C.t s) fun s1=>.ok ({ x with mark:=s.tok.at_,op:=6 },s1) by rw[zb9.eq_1,hN];rfl)
 have HN:=zH hN
 have HG:=zH (show za5 s wGo=false by
  unfold za5 at hN ⊢
  cases h:eqB s.tok.text wGo
  ·simp
  ·rw[eqB_ne h (by decide)]at hN;simp at hN)
 clear hN
 have S0:=zH (SEnv.start E X hB hrb)
 obtain⟨hp0,hs0,hx0⟩:=S0.out.cells
 obtain⟨av0,bv0,ev0,hy0,_⟩:=S0.out.x.cells
 obtain⟨hne1,hne2⟩:=S0.out.ne
 have S1:=zH (S0.out.setMark s.tok.at_)
 clear E X
 go_enter Tryz.func318,Tryz.ntmps318
 go_wp2_with fail
 refine(zc4 S1.out.e wNew).mono ?_
 rw[HN.out]
 rintro e w' ⟨rfl,rfl⟩
 go_wp2_with fail
 refine(zc4 S1.out.e wGo).mono ?_
 rw[HG.out]
 rintro e w' ⟨rfl,rfl⟩
 go_wp2_with fail
 refine zag (fun W=>SEnv C xb w W s { x with mark:=s.tok.at_,op:=6 }) (S1.out.setOp 6) ?_
 intro w2 hS2
 have S2:=zH hS2
 obtain⟨hp2,hs2,hx2⟩:=hS2.cells
 obtain⟨av2,bv2,ev2,hy2,_⟩:=hS2.x.cells
 obtain⟨hl2,hm2,hn2⟩:=hS2.lts
 clear hS2
 refine(zck S2.out.e).mono ?_
 rintro e w3 (⟨p3,v,hr,rfl,⟨rfl,hE⟩,hch⟩ | ⟨f,b,hr,rfl,hfb,hle,hch⟩)
 rotate_left
 ·exact⟨rfl,S2.out.fault (by have md:=MD0.out;rw[hr]at md;exact md) hfb hle hch⟩
 have R3:=zH hr
 have md:=MD0.out
 rw[hr,zae]at md
 have MD1:=zH md
 have S3:=zH (S2.out.scan hE hch)
 obtain⟨hp3,hs3,hx3⟩:=S3.out.cells
 obtain⟨av3,bv3,ev3,hy3,_⟩:=S3.out.x.cells
 obtain⟨hl3,hm3,hn3⟩:=S3.out.lts
 clear hr hE hch md
 go_wp2_with fail
 refine bodyPost_ret (results_none rfl _ _ _) rfl ?_
 exact zbp.done S3.out MD1.out
theorem zv4 (C:PC)(xb:Nat)(w:World)(s:Sc)(x:Stm)(E:Env C w s)(X:zad w C.rb xb x)(hB:C.B≤xb)(hrb:C.rb≤w.heap.size)(hN:za5 s wNew=false)(hG:za5 s wGo=true) :
  Calls Tryz.prog 318 #[.pointer (some ⟨C.pb,0,none⟩),.pointer (some ⟨xb,0,none⟩)] w (zbp C xb w (zb9 C.t s x)):=by
 have MD0:=zH (show zb9 C.t s x=zab (zam C.t s) fun s1=>zg4 C.t s1 { x with mark:=s.tok.at_,op:=7 } by rw[zb9.eq_1,hN,hG];rfl)
 have HN:=zH hN
 have HG:=zH hG
 clear hN hG
 have S0:=zH (SEnv.start E X hB hrb)
 obtain⟨hp0,hs0,hx0⟩:=S0.out.cells
 obtain⟨av0,bv0,ev0,hy0,_⟩:=S0.out.x.cells
 obtain⟨hne1,hne2⟩:=S0.out.ne
 have S1:=zH (S0.out.setMark s.tok.at_)
 clear E X
 go_enter Tryz.func318,Tryz.ntmps318
 go_wp2_with fail
 refine(zc4 S1.out.e wNew).mono ?_
 rw[HN.out]
 rintro e w' ⟨rfl,rfl⟩
 go_wp2_with fail
 refine(zc4 S1.out.e wGo).mono ?_
 rw[HG.out]
 rintro e w' ⟨rfl,rfl⟩
 go_wp2_with fail
 refine zag (fun W=>SEnv C xb w W s { x with mark:=s.tok.at_,op:=7 }) (S1.out.setOp 7) ?_
 intro w2 hS2
 have S2:=zH hS2
 obtain⟨hp2,hs2,hx2⟩:=hS2.cells
 obtain⟨av2,bv2,ev2,hy2,_⟩:=hS2.x.cells
 obtain⟨hl2,hm2,hn2⟩:=hS2.lts
 clear hS2
 refine(zck S2.out.e).mono ?_
 rintro e w3 (⟨p3,v,hr,rfl,⟨rfl,hE⟩,hch⟩ | ⟨f,b,hr,rfl,hfb,hle,hch⟩)
 rotate_left
 ·exact⟨rfl,S2.out.fault (by have md:=MD0.out;rw[hr]at md;exact md) hfb hle hch⟩
 have R3:=zH hr
 have md:=MD0.out
 rw[hr,zae]at md
 have MD1:=zH md
 have S3:=zH (S2.out.scan hE hch)
 obtain⟨hp3,hs3,hx3⟩:=S3.out.cells
 obtain⟨av3,bv3,ev3,hy3,_⟩:=S3.out.x.cells
 obtain⟨hl3,hm3,hn3⟩:=S3.out.lts
 clear hr hE hch md
 go_wp2_with fail
 refine(zph C xb _ _ _ S3.out.e S3.out.x hB S3.out.rbw).mono ?_
 intro e w4 hP
 have hP':=S3.out.last MD1.out hP
 rcases hP with⟨p,v,h1,rfl,⟨rfl,_⟩,_⟩ | ⟨f,b,h1,rfl,_⟩
 ·have HP:=zH hP'
  clear hP'
  go_wp2_with fail
  refine bodyPost_ret (results_none rfl _ _ _) rfl ?_
  exact HP.out
 ·exact⟨rfl,hP'⟩
theorem zwo (C:PC)(xb:Nat)(w:World)(s:Sc)(x:Stm)(E:Env C w s)(X:zad w C.rb xb x)(hB:C.B≤xb)(hrb:C.rb≤w.heap.size)(hN:za5 s wNew=false)(hG:za5 s wGo=false)(nb:Bool)(hnum:((s.kind:Int)==2)=nb) :
  Calls Tryz.prog 318 #[.pointer (some ⟨C.pb,0,none⟩),.pointer (some ⟨xb,0,none⟩)] w (zbp C xb w (zb9 C.t s x)):=by
 have MD0:=zH (show zb9 C.t s x=zab (zco C.t s) fun p =>
   if isM p.2 40∧nb=false then zab (zam C.t p.2) fun s1=>zab (zdv true C.t s1) fun q=>.ok ({ x with mark:=s.tok.at_,op:=11,f:=p.1,args:=q.1 },q.2)else
   if isM p.2 46∧nb=false then zab (zam C.t p.2) fun s1=>zab (zfz C.t s1) fun q=>.ok ({ x with mark:=s.tok.at_,op:=4,y:=p.1,field:=q.1 },q.2)else
   zbw C.t p.2 { x with mark:=s.tok.at_,op:=1,y:=p.1 } by
  have e:s.kind≠2↔nb=false:=by
   rw[← hnum,beq_eq_false_iff_ne];omega
  rw[zb9.eq_1,hN,hG]
  simp only[e];rfl)
 have HN:=zH hN
 have HG:=zH hG
 have HNUM:=zH hnum
 clear hN hG hnum
 have S0:=zH (SEnv.start E X hB hrb)
 obtain⟨hp0,hs0,hx0⟩:=S0.out.cells
 obtain⟨av0,bv0,ev0,hy0,_⟩:=S0.out.x.cells
 obtain⟨hne1,hne2⟩:=S0.out.ne
 have S1:=zH (S0.out.setMark s.tok.at_)
 clear E X
 go_enter Tryz.func318,Tryz.ntmps318
 go_wp2_with fail
 refine(zc4 S1.out.e wNew).mono ?_
 rw[HN.out]
 rintro e w' ⟨rfl,rfl⟩
 go_wp2_with fail
 refine(zc4 S1.out.e wGo).mono ?_
 rw[HG.out]
 rintro e w' ⟨rfl,rfl⟩
 go_wp2_with fail
 refine(zgt S1.out.e).mono ?_
 rintro e w2 (⟨p2,v,hr,rfl,⟨rfl,hE⟩,hch⟩ | ⟨f,b,hr,rfl,hfb,hle,hch⟩)
 rotate_left
 ·exact⟨rfl,S1.out.fault (by have md:=MD0.out;rw[hr]at md;exact md) hfb hle hch⟩
 have R2:=zH hr
 have md:=MD0.out
 rw[hr,zae]at md
 have MD1:=zH md
 have S2:=zH (S1.out.scan hE hch)
 obtain⟨hp2,hs2,hx2⟩:=S2.out.cells
 obtain⟨av2,bv2,ev2,hy2,_⟩:=S2.out.x.cells
 obtain⟨hl2,hm2,hn2⟩:=S2.out.lts
 clear hr hE hch md
 go_wp2_with fail
 have S3:=zH (S2.out.alloc (.cells #[.string p2.1.text,.int .i64 p2.1.at_,.bool p2.1.num,.int .i64 p2.1.n] 220))
 cases nb
 ·cases h40:isM p2.2 40
  ·cases h46:isM p2.2 46
   ·have H40:=zH h40
    have H46:=zH h46
    have hnum:=HNUM.out
    clear h40 h46
    refine(zbc S3.out.e 40).mono ?_
    rw[H40.out]
    rintro e w' ⟨rfl,rfl⟩
    go_wp2_with fail
    refine(zbc S3.out.e 46).mono ?_
    rw[H46.out]
    rintro e w' ⟨rfl,rfl⟩
    go_wp2_with fail
    have MD2:=zH (show zb9 C.t s x=zbw C.t p2.2 { x with mark:=s.tok.at_,y:=p2.1,op:=1 } from by have h:=MD1.out;simp only[H40.out,H46.out]at h;simpa using h)
    refine zag (fun W=>SEnv C xb w W p2.2 { x with mark:=s.tok.at_,y:=p2.1,op:=1 }) ((((S2.out.setY p2.1).setOp 1).alloc _)) ?_
    intro w4 hS4
    have S4:=zH hS4
    obtain⟨hp4,hs4,hx4⟩:=hS4.cells
    obtain⟨av4,bv4,ev4,hy4,_⟩:=hS4.x.cells
    obtain⟨hl4,hm4,hn4⟩:=hS4.lts
    clear hS4
    refine(zki C xb _ _ _ S4.out.e S4.out.x hB S4.out.rbw).mono ?_
    intro e w5 hP
    have hP':=S4.out.last MD2.out hP
    rcases hP with⟨p,v,h1,rfl,⟨rfl,_⟩,_⟩ | ⟨f,b,h1,rfl,_⟩
    ·have HP:=zH hP'
     clear hP'
     go_wp2_with fail
     go_end0
     exact HP.out
    ·exact⟨rfl,hP'⟩
   ·have H40:=zH h40
    have H46:=zH h46
    have hnum:=HNUM.out
    clear h40 h46
    refine(zbc S3.out.e 40).mono ?_
    rw[H40.out]
    rintro e w' ⟨rfl,rfl⟩
    go_wp2_with fail
    refine(zbc S3.out.e 46).mono ?_
    rw[H46.out]
    rintro e w' ⟨rfl,rfl⟩
    go_wp2_with fail
    have MD2:=zH (show zb9 C.t s x=zab (zam C.t p2.2) fun s1=>zab (zfz C.t s1) fun q=>.ok ({ x with mark:=s.tok.at_,y:=p2.1,op:=4,field:=q.1 },q.2)from by have h:=MD1.out;simp only[H40.out,H46.out]at h;simpa using h)
    refine zag (fun W=>SEnv C xb w W p2.2 { x with mark:=s.tok.at_,y:=p2.1,op:=4 }) ((((S2.out.setY p2.1).setOp 4).alloc _)) ?_
    intro w4 hS4
    have S4:=zH hS4
    obtain⟨hp4,hs4,hx4⟩:=hS4.cells
    obtain⟨av4,bv4,ev4,hy4,_⟩:=hS4.x.cells
    obtain⟨hl4,hm4,hn4⟩:=hS4.lts
    clear hS4
    refine(zck S4.out.e).mono ?_
    rintro e w5 (⟨p5,v,hr,rfl,⟨rfl,hE⟩,hch⟩ | ⟨f,b,hr,rfl,hfb,hle,hch⟩)
    rotate_left
    ·exact⟨rfl,S4.out.fault (by have md:=MD2.out;rw[hr]at md;exact md) hfb hle hch⟩
    have R5:=zH hr
    have md:=MD2.out
    rw[hr,zae]at md
    have MD3:=zH md
    have S5:=zH (S4.out.scan hE hch)
    obtain⟨hp5,hs5,hx5⟩:=S5.out.cells
    obtain⟨av5,bv5,ev5,hy5,_⟩:=S5.out.x.cells
    obtain⟨hl5,hm5,hn5⟩:=S5.out.lts
    clear hr hE hch md
    go_wp2_with fail
    refine(zo5 C _ _ S5.out.e).mono ?_
    rintro e w6 (⟨p6,v,hr,rfl,⟨rfl,hE⟩,hch⟩ | ⟨f,b,hr,rfl,hfb,hle,hch⟩)
    rotate_left
    ·exact⟨rfl,S5.out.fault (by have md:=MD3.out;rw[hr]at md;exact md) hfb hle hch⟩
    have md:=MD3.out
    rw[hr,zae]at md
    have MD4:=zH md
    have S6:=zH (S5.out.scan hE hch)
    obtain⟨hp6,hs6,hx6⟩:=S6.out.cells
    obtain⟨av6,bv6,ev6,hy6,_⟩:=S6.out.x.cells
    obtain⟨hl6,hm6,hn6⟩:=S6.out.lts
    clear hr hE hch md
    go_wp2_with fail
    refine bodyPost_ret (results_none rfl _ _ _) rfl ?_
    exact zbp.done (S6.out.setField _) MD4.out
  ·cases h46:isM p2.2 46
   ·have H40:=zH h40
    have H46:=zH h46
    have hnum:=HNUM.out
    clear h40 h46
    refine(zbc S3.out.e 40).mono ?_
    rw[H40.out]
    rintro e w' ⟨rfl,rfl⟩
    go_wp2_with fail
    refine(zbc S3.out.e 46).mono ?_
    rw[H46.out]
    rintro e w' ⟨rfl,rfl⟩
    go_wp2_with fail
    have MD2:=zH (show zb9 C.t s x=zab (zam C.t p2.2) fun s1=>zab (zdv true C.t s1) fun q=>.ok ({ x with mark:=s.tok.at_,op:=11,f:=p2.1,args:=q.1 },q.2)from by have h:=MD1.out;simp only[H40.out,H46.out]at h;simpa using h)
    refine zag (fun W=>SEnv C xb w W p2.2 { x with mark:=s.tok.at_,op:=11,f:=p2.1 }) ((((S2.out.setOp 11).setF p2.1).alloc _)) ?_
    intro w4 hS4
    have S4:=zH hS4
    obtain⟨hp4,hs4,hx4⟩:=hS4.cells
    obtain⟨av4,bv4,ev4,hy4,_⟩:=hS4.x.cells
    obtain⟨hl4,hm4,hn4⟩:=hS4.lts
    clear hS4
    refine(zck S4.out.e).mono ?_
    rintro e w5 (⟨p5,v,hr,rfl,⟨rfl,hE⟩,hch⟩ | ⟨f,b,hr,rfl,hfb,hle,hch⟩)
    rotate_left
    ·exact⟨rfl,S4.out.fault (by have md:=MD2.out;rw[hr]at md;exact md) hfb hle hch⟩
    have R5:=zH hr
    have md:=MD2.out
    rw[hr,zae]at md
    have MD3:=zH md
    have S5:=zH (S4.out.scan hE hch)
    obtain⟨hp5,hs5,hx5⟩:=S5.out.cells
    obtain⟨av5,bv5,ev5,hy5,_⟩:=S5.out.x.cells
    obtain⟨hl5,hm5,hn5⟩:=S5.out.lts
    clear hr hE hch md
    go_wp2_with fail
    refine(zjn C _ _ true S5.out.e).mono ?_
    rintro e w6 (⟨p6,v6,hr,rfl,⟨hN,hE⟩,hch⟩ | ⟨f,b,hr,rfl,hfb,hle,hch⟩)
    rotate_left
    ·exact⟨rfl,S5.out.fault (by have md:=MD3.out;rw[hr]at md;exact md) hfb hle hch⟩
    have R6:=zH hr
    have md:=MD3.out
    rw[hr,zae]at md
    have MD4:=zH md
    have N6:=zH (show zbs w6 C.rb v6 p6.1 from zbn hN S5.out.rbw)
    obtain⟨a6,c6,hv⟩:=zat hN
    subst hv
    have S6:=zH (S5.out.scan hE hch)
    obtain⟨hp6,hs6,hx6⟩:=S6.out.cells
    obtain⟨av6,bv6,ev6,hy6,_⟩:=S6.out.x.cells
    obtain⟨hl6,hm6,hn6⟩:=S6.out.lts
    clear hr hE hch md hN
    go_wp2_with fail
    refine bodyPost_ret (results_none rfl _ _ _) rfl ?_
    exact zbp.done (S6.out.setArgs N6.out) MD4.out
   ·have H40:=zH h40
    have H46:=zH h46
    have hnum:=HNUM.out
    clear h40 h46
    refine(zbc S3.out.e 40).mono ?_
    rw[H40.out]
    rintro e w' ⟨rfl,rfl⟩
    go_wp2_with fail
    refine(zbc S3.out.e 46).mono ?_
    rw[H46.out]
    rintro e w' ⟨rfl,rfl⟩
    go_wp2_with fail
    have MD2:=zH (show zb9 C.t s x=zab (zam C.t p2.2) fun s1=>zab (zdv true C.t s1) fun q=>.ok ({ x with mark:=s.tok.at_,op:=11,f:=p2.1,args:=q.1 },q.2)from by have h:=MD1.out;simp only[H40.out,H46.out]at h;simpa using h)
    refine zag (fun W=>SEnv C xb w W p2.2 { x with mark:=s.tok.at_,op:=11,f:=p2.1 }) ((((S2.out.setOp 11).setF p2.1).alloc _)) ?_
    intro w4 hS4
    have S4:=zH hS4
    obtain⟨hp4,hs4,hx4⟩:=hS4.cells
    obtain⟨av4,bv4,ev4,hy4,_⟩:=hS4.x.cells
    obtain⟨hl4,hm4,hn4⟩:=hS4.lts
    clear hS4
    refine(zck S4.out.e).mono ?_
    rintro e w5 (⟨p5,v,hr,rfl,⟨rfl,hE⟩,hch⟩ | ⟨f,b,hr,rfl,hfb,hle,hch⟩)
    rotate_left
    ·exact⟨rfl,S4.out.fault (by have md:=MD2.out;rw[hr]at md;exact md) hfb hle hch⟩
    have R5:=zH hr
    have md:=MD2.out
    rw[hr,zae]at md
    have MD3:=zH md
    have S5:=zH (S4.out.scan hE hch)
    obtain⟨hp5,hs5,hx5⟩:=S5.out.cells
    obtain⟨av5,bv5,ev5,hy5,_⟩:=S5.out.x.cells
    obtain⟨hl5,hm5,hn5⟩:=S5.out.lts
    clear hr hE hch md
    go_wp2_with fail
    refine(zjn C _ _ true S5.out.e).mono ?_
    rintro e w6 (⟨p6,v6,hr,rfl,⟨hN,hE⟩,hch⟩ | ⟨f,b,hr,rfl,hfb,hle,hch⟩)
    rotate_left
    ·exact⟨rfl,S5.out.fault (by have md:=MD3.out;rw[hr]at md;exact md) hfb hle hch⟩
    have R6:=zH hr
    have md:=MD3.out
    rw[hr,zae]at md
    have MD4:=zH md
    have N6:=zH (show zbs w6 C.rb v6 p6.1 from zbn hN S5.out.rbw)
    obtain⟨a6,c6,hv⟩:=zat hN
    subst hv
    have S6:=zH (S5.out.scan hE hch)
    obtain⟨hp6,hs6,hx6⟩:=S6.out.cells
    obtain⟨av6,bv6,ev6,hy6,_⟩:=S6.out.x.cells
    obtain⟨hl6,hm6,hn6⟩:=S6.out.lts
    clear hr hE hch md hN
    go_wp2_with fail
    refine bodyPost_ret (results_none rfl _ _ _) rfl ?_
    exact zbp.done (S6.out.setArgs N6.out) MD4.out
 ·cases h40:isM p2.2 40
  ·cases h46:isM p2.2 46
   ·have H40:=zH h40
    have H46:=zH h46
    have hnum:=HNUM.out
    clear h40 h46
    refine(zbc S3.out.e 40).mono ?_
    rw[H40.out]
    rintro e w' ⟨rfl,rfl⟩
    go_wp2_with fail
    refine(zbc S3.out.e 46).mono ?_
    rw[H46.out]
    rintro e w' ⟨rfl,rfl⟩
    go_wp2_with fail
    have MD2:=zH (show zb9 C.t s x=zbw C.t p2.2 { x with mark:=s.tok.at_,y:=p2.1,op:=1 } from by have h:=MD1.out;simp only[H40.out,H46.out]at h;simpa using h)
    refine zag (fun W=>SEnv C xb w W p2.2 { x with mark:=s.tok.at_,y:=p2.1,op:=1 }) ((((S2.out.setY p2.1).setOp 1).alloc _)) ?_
    intro w4 hS4
    have S4:=zH hS4
    obtain⟨hp4,hs4,hx4⟩:=hS4.cells
    obtain⟨av4,bv4,ev4,hy4,_⟩:=hS4.x.cells
    obtain⟨hl4,hm4,hn4⟩:=hS4.lts
    clear hS4
    refine(zki C xb _ _ _ S4.out.e S4.out.x hB S4.out.rbw).mono ?_
    intro e w5 hP
    have hP':=S4.out.last MD2.out hP
    rcases hP with⟨p,v,h1,rfl,⟨rfl,_⟩,_⟩ | ⟨f,b,h1,rfl,_⟩
    ·have HP:=zH hP'
     clear hP'
     go_wp2_with fail
     go_end0
     exact HP.out
    ·exact⟨rfl,hP'⟩
   ·have H40:=zH h40
    have H46:=zH h46
    have hnum:=HNUM.out
    clear h40 h46
    refine(zbc S3.out.e 40).mono ?_
    rw[H40.out]
    rintro e w' ⟨rfl,rfl⟩
    go_wp2_with fail
    refine(zbc S3.out.e 46).mono ?_
    rw[H46.out]
    rintro e w' ⟨rfl,rfl⟩
    go_wp2_with fail
    have MD2:=zH (show zb9 C.t s x=zbw C.t p2.2 { x with mark:=s.tok.at_,y:=p2.1,op:=1 } from by have h:=MD1.out;simp only[H40.out,H46.out]at h;simpa using h)
    refine zag (fun W=>SEnv C xb w W p2.2 { x with mark:=s.tok.at_,y:=p2.1,op:=1 }) ((((S2.out.setY p2.1).setOp 1).alloc _)) ?_
    intro w4 hS4
    have S4:=zH hS4
    obtain⟨hp4,hs4,hx4⟩:=hS4.cells
    obtain⟨av4,bv4,ev4,hy4,_⟩:=hS4.x.cells
    obtain⟨hl4,hm4,hn4⟩:=hS4.lts
    clear hS4
    refine(zki C xb _ _ _ S4.out.e S4.out.x hB S4.out.rbw).mono ?_
    intro e w5 hP
    have hP':=S4.out.last MD2.out hP
    rcases hP with⟨p,v,h1,rfl,⟨rfl,_⟩,_⟩ | ⟨f,b,h1,rfl,_⟩
    ·have HP:=zH hP'
     clear hP'
     go_wp2_with fail
     go_end0
     exact HP.out
    ·exact⟨rfl,hP'⟩
  ·cases h46:isM p2.2 46
   ·have H40:=zH h40
    have H46:=zH h46
    have hnum:=HNUM.out
    clear h40 h46
    refine(zbc S3.out.e 40).mono ?_
    rw[H40.out]
    rintro e w' ⟨rfl,rfl⟩
    go_wp2_with fail
    refine(zbc S3.out.e 46).mono ?_
    rw[H46.out]
    rintro e w' ⟨rfl,rfl⟩
    go_wp2_with fail
    have MD2:=zH (show zb9 C.t s x=zbw C.t p2.2 { x with mark:=s.tok.at_,y:=p2.1,op:=1 } from by have h:=MD1.out;simp only[H40.out,H46.out]at h;simpa using h)
    refine zag (fun W=>SEnv C xb w W p2.2 { x with mark:=s.tok.at_,y:=p2.1,op:=1 }) ((((S2.out.setY p2.1).setOp 1).alloc _)) ?_
    intro w4 hS4
    have S4:=zH hS4
    obtain⟨hp4,hs4,hx4⟩:=hS4.cells
    obtain⟨av4,bv4,ev4,hy4,_⟩:=hS4.x.cells
    obtain⟨hl4,hm4,hn4⟩:=hS4.lts
    clear hS4
    refine(zki C xb _ _ _ S4.out.e S4.out.x hB S4.out.rbw).mono ?_
    intro e w5 hP
    have hP':=S4.out.last MD2.out hP
    rcases hP with⟨p,v,h1,rfl,⟨rfl,_⟩,_⟩ | ⟨f,b,h1,rfl,_⟩
    ·have HP:=zH hP'
     clear hP'
     go_wp2_with fail
     go_end0
     exact HP.out
    ·exact⟨rfl,hP'⟩
   ·have H40:=zH h40
    have H46:=zH h46
    have hnum:=HNUM.out
    clear h40 h46
    refine(zbc S3.out.e 40).mono ?_
    rw[H40.out]
    rintro e w' ⟨rfl,rfl⟩
    go_wp2_with fail
    refine(zbc S3.out.e 46).mono ?_
    rw[H46.out]
    rintro e w' ⟨rfl,rfl⟩
    go_wp2_with fail
    have MD2:=zH (show zb9 C.t s x=zbw C.t p2.2 { x with mark:=s.tok.at_,y:=p2.1,op:=1 } from by have h:=MD1.out;simp only[H40.out,H46.out]at h;simpa using h)
    refine zag (fun W=>SEnv C xb w W p2.2 { x with mark:=s.tok.at_,y:=p2.1,op:=1 }) ((((S2.out.setY p2.1).setOp 1).alloc _)) ?_
    intro w4 hS4
    have S4:=zH hS4
    obtain⟨hp4,hs4,hx4⟩:=hS4.cells
    obtain⟨av4,bv4,ev4,hy4,_⟩:=hS4.x.cells
    obtain⟨hl4,hm4,hn4⟩:=hS4.lts
    clear hS4
    refine(zki C xb _ _ _ S4.out.e S4.out.x hB S4.out.rbw).mono ?_
    intro e w5 hP
    have hP':=S4.out.last MD2.out hP
    rcases hP with⟨p,v,h1,rfl,⟨rfl,_⟩,_⟩ | ⟨f,b,h1,rfl,_⟩
    ·have HP:=zH hP'
     clear hP'
     go_wp2_with fail
     go_end0
     exact HP.out
    ·exact⟨rfl,hP'⟩
theorem zxu (C:PC)(xb:Nat)(w:World)(s:Sc)(x:Stm)(E:Env C w s)(X:zad w C.rb xb x)(hB:C.B≤xb)(hrb:C.rb≤w.heap.size) :
  Calls Tryz.prog 318 #[.pointer (some ⟨C.pb,0,none⟩),.pointer (some ⟨xb,0,none⟩)] w (zbp C xb w (zb9 C.t s x)):=by
 cases hN:za5 s wNew
 ·cases hG:za5 s wGo
  ·exact zwo C xb w s x E X hB hrb hN hG _ rfl
  ·exact zv4 C xb w s x E X hB hrb hN hG
 ·exact zxq C xb w s x E X hB hrb hN
end
section
open Go.RowKit
attribute [local go_sem] zaq
theorem zt5 (C:PC)(xb:Nat)(w:World)(s:Sc)(x:Stm)(E:Env C w s)(X:zad w C.rb xb x)(hB:C.B≤xb)(hrb:C.rb≤w.heap.size) :
  Calls Tryz.prog 312 #[.pointer (some ⟨C.pb,0,none⟩),.pointer (some ⟨xb,0,none⟩)] w (zbp C xb w (zeb C.t s x)):=by
 have S0:=zH (SEnv.start E X hB hrb)
 have MD0:=zH (zeb.eq_1 C.t s x)
 obtain⟨hp0,hs0,hx0⟩:=S0.out.cells
 obtain⟨av0,bv0,ev0,hy0,_⟩:=S0.out.x.cells
 obtain⟨hne1,hne2⟩:=S0.out.ne
 clear E X
 go_enter Tryz.func312,Tryz.ntmps312
 go_wp2_with fail
 refine(zf8 S0.out.e).mono ?_
 rintro e w1 (⟨p1,v,hr,rfl,⟨rfl,hE⟩,hch⟩ | ⟨f,b,hr,rfl,hfb,hle,hch⟩)
 rotate_left
 ·exact⟨rfl,S0.out.fault (by have md:=MD0.out;rw[hr]at md;exact md) hfb hle hch⟩
 have R1:=zH hr
 have md:=MD0.out
 rw[hr,zae]at md
 have MD1:=zH md
 have S1:=zH (S0.out.scan hE hch)
 obtain⟨hp1,hs1,hx1⟩:=S1.out.cells
 obtain⟨av1,bv1,ev1,hy1,_⟩:=S1.out.x.cells
 obtain⟨hl1,hm1,hn1⟩:=S1.out.lts
 clear hr hE hch md
 go_wp2_with fail
 have S2:=zH (S1.out.alloc (.cells #[.string p1.1.text,.int .i64 p1.1.at_,.bool p1.1.num,.int .i64 p1.1.n] 220))
 cases h40:isM p1.2 40
 ·cases h46:isM p1.2 46
  ·have MD2:=zH (show zeb C.t s x=zab (zab (za9 C.t p1.2 61) fun s1=>zb9 C.t s1 { x with x:=p1.1 }) fun r=>zab (za9 C.t r.2 59) fun s2=>.ok (r.1,s2)from by have h:=MD1.out;simp only[h40,h46]at h;exact h)
   have H40:=zH h40
   have H46:=zH h46
   clear h40 h46
   refine(zbc S2.out.e 40).mono ?_
   rw[H40.out]
   rintro e w' ⟨rfl,rfl⟩
   go_wp2_with fail
   refine(zbc S2.out.e 46).mono ?_
   rw[H46.out]
   rintro e w' ⟨rfl,rfl⟩
   go_wp2_with fail
   refine zag (fun W=>SEnv C xb w W p1.2 { x with x:=p1.1 }) ((S1.out.setX p1.1).alloc _) ?_
   intro w4 hS4
   have S4:=zH hS4
   obtain⟨hp4,hs4,hx4⟩:=hS4.cells
   obtain⟨av4,bv4,ev4,hy4,_⟩:=hS4.x.cells
   obtain⟨hl4,hm4,hn4⟩:=hS4.lts
   clear hS4
   refine(zcu S4.out.e 61).mono ?_
   rintro e w5 (⟨p5,v,hr,rfl,⟨rfl,hE⟩,hch⟩ | ⟨f,b,hr,rfl,hfb,hle,hch⟩)
   rotate_left
   ·exact⟨rfl,S4.out.fault (by have md:=MD2.out;rw[hr]at md;exact md) hfb hle hch⟩
   have R5:=zH hr
   have md:=MD2.out
   rw[hr,zae]at md
   have MD3:=zH md
   have S5:=zH (S4.out.scan hE hch)
   obtain⟨hp5,hs5,hx5⟩:=S5.out.cells
   obtain⟨av5,bv5,ev5,hy5,_⟩:=S5.out.x.cells
   obtain⟨hl5,hm5,hn5⟩:=S5.out.lts
   clear hr hE hch md
   go_wp2_with fail
   refine(zxu C xb _ _ _ S5.out.e S5.out.x hB S5.out.rbw).mono ?_
   rintro e w6 (⟨p,v,h1,rfl,⟨rfl,hE,hX⟩,hch⟩ | ⟨f,b,h1,rfl,hfb,hle,hch⟩)
   ·have md:=MD3.out
    rw[h1,zae]at md
    have MD4:=zH md
    have hS6:SEnv C xb w w6 p.2 p.1:=⟨hE,hX,Nat.le_trans S5.out.rbw hch.size,S5.out.c.trans hch,hB⟩
    have S6:=zH hS6
    obtain⟨hp6,hs6,hx6⟩:=hS6.cells
    clear md h1 hE hX hch hS6
    go_wp2_with fail
    refine(zcu S6.out.e 59).mono ?_
    rintro e w7 (⟨p7,v,hr,rfl,⟨rfl,hE⟩,hch⟩ | ⟨f,b,hr,rfl,hfb,hle,hch⟩)
    rotate_left
    ·exact⟨rfl,S6.out.fault (by have md:=MD4.out;rw[hr]at md;exact md) hfb hle hch⟩
    have R7:=zH hr
    have md:=MD4.out
    rw[hr,zae]at md
    have MDZ:=zH md
    have S7:=zH (S6.out.scan hE hch)
    obtain⟨hp7,hs7,hx7⟩:=S7.out.cells
    obtain⟨av7,bv7,ev7,hy7,_⟩:=S7.out.x.cells
    obtain⟨hl7,hm7,hn7⟩:=S7.out.lts
    clear hr hE hch md
    go_wp2_with fail
    go_end0
    exact zbp.done S7.out MDZ.out
   ·exact⟨rfl,.inr ⟨f,b,by have md:=MD3.out;rw[h1]at md;exact md,rfl,hfb,Nat.le_trans S5.out.c.size hle,S5.out.c.trans hch⟩⟩
  ·have MD2:=zH (show zeb C.t s x=zab (zab (zam C.t p1.2) fun s1=>zab (zfz C.t s1) fun q=>zab (za9 C.t q.2 61) fun s3=>zab (zco C.t s3) fun r=>.ok ({ x with op:=5,x:=p1.1,field:=q.1,y:=r.1 },r.2)) fun r=>zab (za9 C.t r.2 59) fun s2=>.ok (r.1,s2)from by have h:=MD1.out;simp only[h40,h46]at h;exact h)
   have H40:=zH h40
   have H46:=zH h46
   clear h40 h46
   refine(zbc S2.out.e 40).mono ?_
   rw[H40.out]
   rintro e w' ⟨rfl,rfl⟩
   go_wp2_with fail
   refine(zbc S2.out.e 46).mono ?_
   rw[H46.out]
   rintro e w' ⟨rfl,rfl⟩
   go_wp2_with fail
   refine zag (fun W=>SEnv C xb w W p1.2 { x with op:=5,x:=p1.1 }) (((S1.out.setOp 5).setX p1.1).alloc _) ?_
   intro w4 hS4
   have S4:=zH hS4
   obtain⟨hp4,hs4,hx4⟩:=hS4.cells
   obtain⟨av4,bv4,ev4,hy4,_⟩:=hS4.x.cells
   obtain⟨hl4,hm4,hn4⟩:=hS4.lts
   clear hS4
   refine(zck S4.out.e).mono ?_
   rintro e w5 (⟨p5,v,hr,rfl,⟨rfl,hE⟩,hch⟩ | ⟨f,b,hr,rfl,hfb,hle,hch⟩)
   rotate_left
   ·exact⟨rfl,S4.out.fault (by have md:=MD2.out;rw[hr]at md;exact md) hfb hle hch⟩
   have R5:=zH hr
   have md:=MD2.out
   rw[hr,zae]at md
   have MD3:=zH md
   have S5:=zH (S4.out.scan hE hch)
   obtain⟨hp5,hs5,hx5⟩:=S5.out.cells
   obtain⟨av5,bv5,ev5,hy5,_⟩:=S5.out.x.cells
   obtain⟨hl5,hm5,hn5⟩:=S5.out.lts
   clear hr hE hch md
   go_wp2_with fail
   refine(zo5 C _ _ S5.out.e).mono ?_
   rintro e w6 (⟨p6,v,hr,rfl,⟨rfl,hE⟩,hch⟩ | ⟨f,b,hr,rfl,hfb,hle,hch⟩)
   rotate_left
   ·exact⟨rfl,S5.out.fault (by have md:=MD3.out;rw[hr]at md;exact md) hfb hle hch⟩
   have md:=MD3.out
   rw[hr,zae]at md
   have MD4:=zH md
   have S6:=zH (S5.out.scan hE hch)
   obtain⟨hp6,hs6,hx6⟩:=S6.out.cells
   obtain⟨av6,bv6,ev6,hy6,_⟩:=S6.out.x.cells
   obtain⟨hl6,hm6,hn6⟩:=S6.out.lts
   clear hr hE hch md
   go_wp2_with fail
   refine zag (fun W=>SEnv C xb w W p6.2 { x with op:=5,x:=p1.1,field:=p6.1 }) (S6.out.setField p6.1) ?_
   intro w7 hS7
   have S7:=zH hS7
   obtain⟨hp7,hs7,hx7⟩:=hS7.cells
   obtain⟨av7,bv7,ev7,hy7,_⟩:=hS7.x.cells
   obtain⟨hl7,hm7,hn7⟩:=hS7.lts
   clear hS7
   refine(zcu S7.out.e 61).mono ?_
   rintro e w8 (⟨p8,v,hr,rfl,⟨rfl,hE⟩,hch⟩ | ⟨f,b,hr,rfl,hfb,hle,hch⟩)
   rotate_left
   ·exact⟨rfl,S7.out.fault (by have md:=MD4.out;rw[hr]at md;exact md) hfb hle hch⟩
   have R8:=zH hr
   have md:=MD4.out
   rw[hr,zae]at md
   have MD5:=zH md
   have S8:=zH (S7.out.scan hE hch)
   obtain⟨hp8,hs8,hx8⟩:=S8.out.cells
   obtain⟨av8,bv8,ev8,hy8,_⟩:=S8.out.x.cells
   obtain⟨hl8,hm8,hn8⟩:=S8.out.lts
   clear hr hE hch md
   go_wp2_with fail
   refine(zgt S8.out.e).mono ?_
   rintro e w9 (⟨p9,v,hr,rfl,⟨rfl,hE⟩,hch⟩ | ⟨f,b,hr,rfl,hfb,hle,hch⟩)
   rotate_left
   ·exact⟨rfl,S8.out.fault (by have md:=MD5.out;rw[hr]at md;exact md) hfb hle hch⟩
   have R9:=zH hr
   have md:=MD5.out
   rw[hr,zae]at md
   have MD6:=zH md
   have S9:=zH (S8.out.scan hE hch)
   obtain⟨hp9,hs9,hx9⟩:=S9.out.cells
   obtain⟨av9,bv9,ev9,hy9,_⟩:=S9.out.x.cells
   obtain⟨hl9,hm9,hn9⟩:=S9.out.lts
   clear hr hE hch md
   go_wp2_with fail
   refine zag (fun W=>SEnv C xb w W p9.2 { x with op:=5,x:=p1.1,field:=p6.1,y:=p9.1 }) (S9.out.setY p9.1) ?_
   intro w10 hS10
   have S10:=zH hS10
   obtain⟨hp10,hs10,hx10⟩:=hS10.cells
   obtain⟨av10,bv10,ev10,hy10,_⟩:=hS10.x.cells
   obtain⟨hl10,hm10,hn10⟩:=hS10.lts
   clear hS10
   have md:=MD6.out
   rw[zae]at md
   have MD7:=zH md
   clear md
   refine(zcu S10.out.e 59).mono ?_
   rintro e w11 (⟨p11,v,hr,rfl,⟨rfl,hE⟩,hch⟩ | ⟨f,b,hr,rfl,hfb,hle,hch⟩)
   rotate_left
   ·exact⟨rfl,S10.out.fault (by have md:=MD7.out;rw[hr]at md;exact md) hfb hle hch⟩
   have R11:=zH hr
   have md:=MD7.out
   rw[hr,zae]at md
   have MDZ:=zH md
   have S11:=zH (S10.out.scan hE hch)
   obtain⟨hp11,hs11,hx11⟩:=S11.out.cells
   obtain⟨av11,bv11,ev11,hy11,_⟩:=S11.out.x.cells
   obtain⟨hl11,hm11,hn11⟩:=S11.out.lts
   clear hr hE hch md
   go_wp2_with fail
   go_end0
   exact zbp.done S11.out MDZ.out
 ·have MD2:=zH (show zeb C.t s x=zab (zab (zam C.t p1.2) fun s1=>zab (zdv true C.t s1) fun q=>.ok ({ x with op:=11,f:=p1.1,args:=q.1 },q.2)) fun r=>zab (za9 C.t r.2 59) fun s2=>.ok (r.1,s2)from by have h:=MD1.out;simp only[h40]at h;exact h)
  have H40:=zH h40
  clear h40
  refine(zbc S2.out.e 40).mono ?_
  rw[H40.out]
  rintro e w' ⟨rfl,rfl⟩
  go_wp2_with fail
  cases h46:isM p1.2 46
  all_goals
   have H46:=zH h46
   clear h46
   refine(zbc S2.out.e 46).mono ?_
   rw[H46.out]
   rintro e w' ⟨rfl,rfl⟩
   go_wp2_with fail
   refine zag (fun W=>SEnv C xb w W p1.2 { x with op:=11,f:=p1.1 }) (((S1.out.setOp 11).setF p1.1).alloc _) ?_
   intro w4 hS4
   have S4:=zH hS4
   obtain⟨hp4,hs4,hx4⟩:=hS4.cells
   obtain⟨av4,bv4,ev4,hy4,_⟩:=hS4.x.cells
   obtain⟨hl4,hm4,hn4⟩:=hS4.lts
   clear hS4
   refine(zck S4.out.e).mono ?_
   rintro e w5 (⟨p5,v,hr,rfl,⟨rfl,hE⟩,hch⟩ | ⟨f,b,hr,rfl,hfb,hle,hch⟩)
   rotate_left
   ·exact⟨rfl,S4.out.fault (by have md:=MD2.out;rw[hr]at md;exact md) hfb hle hch⟩
   have R5:=zH hr
   have md:=MD2.out
   rw[hr,zae]at md
   have MD3:=zH md
   have S5:=zH (S4.out.scan hE hch)
   obtain⟨hp5,hs5,hx5⟩:=S5.out.cells
   obtain⟨av5,bv5,ev5,hy5,_⟩:=S5.out.x.cells
   obtain⟨hl5,hm5,hn5⟩:=S5.out.lts
   clear hr hE hch md
   go_wp2_with fail
   refine(zjn C _ _ true S5.out.e).mono ?_
   rintro e w6 (⟨p6,v6,hr,rfl,⟨hN,hE⟩,hch⟩ | ⟨f,b,hr,rfl,hfb,hle,hch⟩)
   rotate_left
   ·exact⟨rfl,S5.out.fault (by have md:=MD3.out;rw[hr]at md;exact md) hfb hle hch⟩
   have R6:=zH hr
   have md:=MD3.out
   rw[hr,zae]at md
   have MD4:=zH md
   have N6:=zH (show zbs w6 C.rb v6 p6.1 from zbn hN S5.out.rbw)
   obtain⟨a6,c6,hv⟩:=zat hN
   subst hv
   have S6:=zH (S5.out.scan hE hch)
   obtain⟨hp6,hs6,hx6⟩:=S6.out.cells
   obtain⟨av6,bv6,ev6,hy6,_⟩:=S6.out.x.cells
   obtain⟨hl6,hm6,hn6⟩:=S6.out.lts
   clear hr hE hch md hN
   go_wp2_with fail
   refine zag (fun W=>SEnv C xb w W p6.2 { x with op:=11,f:=p1.1,args:=p6.1 }) (S6.out.setArgs N6.out) ?_
   intro w7 hS7
   have S7:=zH hS7
   obtain⟨hp7,hs7,hx7⟩:=hS7.cells
   obtain⟨av7,bv7,ev7,hy7,_⟩:=hS7.x.cells
   obtain⟨hl7,hm7,hn7⟩:=hS7.lts
   clear hS7
   have md:=MD4.out
   rw[zae]at md
   have MD5:=zH md
   clear md
   refine(zcu S7.out.e 59).mono ?_
   rintro e w8 (⟨p8,v,hr,rfl,⟨rfl,hE⟩,hch⟩ | ⟨f,b,hr,rfl,hfb,hle,hch⟩)
   rotate_left
   ·exact⟨rfl,S7.out.fault (by have md:=MD5.out;rw[hr]at md;exact md) hfb hle hch⟩
   have R8:=zH hr
   have md:=MD5.out
   rw[hr,zae]at md
   have MDZ:=zH md
   have S8:=zH (S7.out.scan hE hch)
   obtain⟨hp8,hs8,hx8⟩:=S8.out.cells
   obtain⟨av8,bv8,ev8,hy8,_⟩:=S8.out.x.cells
   obtain⟨hl8,hm8,hn8⟩:=S8.out.lts
   clear hr hE hch md
   go_wp2_with fail
   go_end0
   exact zbp.done S8.out MDZ.out
end
section
open Go.RowKit
attribute [local go_sem] zaq
def ptrV (b:Nat):Value:=.pointer (some ⟨b,0,none⟩)
def TrAt (C:PC)(w:World)(dv:Value)(ptrs:List Nat):Prop :=
 ∃ sv,Blk w C.tb 218 #[dv,sv]∧w.ownsRow C.B 398 1 sv ptrs.length (ptrs.map ptrV)
def zav (w:World)(B:Nat):List Nat→List Stm→Prop
 | [],[]=>True
 | b::bs,x::xs=>B≤b∧zad w B b x∧zav w B bs xs
 | _,_=>False
theorem zav.append {w:World}{B:Nat}:∀ {bs cs:List Nat} {xs ys:List Stm},zav w B bs xs→zav w B cs ys→zav w B (bs++cs) (xs++ys)
 | [],_,[],_,_,h=>h
 | [],_,_::_,_,h,_=>h.elim
 | _::_,_,[],_,h,_=>h.elim
 | _::_,_,_::_,_,h,k=>⟨h.1,h.2.1,zav.append h.2.2 k⟩
theorem zav.length {w:World}{B:Nat}:∀ {bs:List Nat} {xs:List Stm},zav w B bs xs→bs.length=xs.length
 | [],[],_=>rfl
 | [],_::_,h=>h.elim
 | _::_,[],h=>h.elim
 | _::_,_::_,h=>by simp[zav.length h.2.2]
theorem zav.map {w w1:World}{B B':Nat}(hB:B'≤B):∀ {bs:List Nat} {xs:List Stm},zav w B bs xs→(∀ b x,b ∈ bs→B≤b→zad w B b x→zad w1 B' b x)→zav w1 B' bs xs
 | [],[],_,_=>trivial
 | [],_::_,h,_=>h.elim
 | _::_,[],h,_=>h.elim
 | _::_,_::_,h,k=>⟨Nat.le_trans hB h.1,k _ _ (by simp) h.1 h.2.1,zav.map hB h.2.2 (fun b x hb=>k b x (List.mem_cons_of_mem _ hb))⟩
theorem zad.low {w:World}{B B' xb:Nat}{x:Stm}(h:zad w B xb x)(hB:B'≤B):zad w B' xb x:=by
 obtain⟨av,bv,ev,h0,h1,h2,h3⟩:=h
 exact⟨av,bv,ev,h0,zbn h1 hB,zbn h2 hB,zbn h3 hB⟩
theorem zav.chg {w w1:World}{B B':Nat}{ts:List TypeId}{bs:List Nat}{l:List Nat}{xs:List Stm}(h:zav w B l xs)(hc:Chg B' ts bs w w1)(h1:439 ∉ ts)(h2:220 ∉ ts)(h3:3 ∉ ts)
  (hx:∀ g ∈ bs,∃ t cs,Blk w g t cs∧t≠439∧t≠220∧t≠3):zav w1 B l xs :=
 h.map (Nat.le_refl _) fun _ _ _ _ hs=>hs.chg hc h1 h2 h3 hx
theorem info_ptr:(Tryz.prog.info? 398).map (fun i=>(i.zero,i.size,i.bytes))=some (some (.pointer none),1,8):=by kernel_rfl
theorem tyPtr:zbl Tryz.prog 216 398 1 8:=zbl.mk' Tryz.underlying216 info_ptr rfl (by omega) (by omega)
theorem info_int:(Tryz.prog.info? 3).map (fun i=>(i.zero,i.size,i.bytes))=some (some (.int .i64 0),1,8):=by kernel_rfl
theorem tyInt:zbl Tryz.prog 67 3 1 8:=zbl.mk' Tryz.underlying67 info_int rfl (by omega) (by omega)
structure Began (C:PC)(w w1:World)(s:Sc)(dv:Value)(ptrs:List Nat):Prop where
 e:Env C w1 s
 tr:TrAt C w1 dv (ptrs++[w.heap.size])
 x:zad w1 w.heap.size w.heap.size { at_:=s.tok.at_ }
 c:Chg C.B [398] [C.sb,C.tb] w w1
theorem zux {C:PC}{w w1 w2:World}{s:Sc}{dv:Value}{ptrs:List Nat}{sa:Option Addr}{sc g cap:Nat}{o:Obj}(E:Env C w1 s)(T:Blk w1 C.tb 218 #[dv,.slice sa ptrs.length sc])(R:w1.ownsRow C.B 398 1 (.slice sa ptrs.length sc) ptrs.length (ptrs.map ptrV))
  (X:zad w1 w.heap.size w.heap.size { at_:=s.tok.at_ }) (hC:Chg C.B [398] [C.sb,C.tb] w w1) (_hB:C.B≤w.heap.size)
  (hrow:w2.ownsRow C.B 398 1 (.slice (some ⟨g,0,none⟩) (ptrs.length+1) cap) (ptrs.length+1) (ptrs.map ptrV++[ptrV w.heap.size])) (hg:(w1.drew.alloc o).grownBy w2 (Value.slice sa ptrs.length sc).ownBlock) :
  Began C w (w2.setCell ⟨C.tb,1,none⟩ (.slice (some ⟨g,0,none⟩) (ptrs.length+1) cap)) s dv ptrs:=by
 have R':=(za2 R).alloc o
 have T2:=Blk.append ((T.drew).alloc o) R' hg (by decide)
 have E2:=Env.append ((E.drew).alloc o) R' hg (by decide) (by decide)
 have C2:=Chg.append ((hC.drew).alloc o) R' hg (Nat.le_refl _) (.inl (by simp))
 have X2:zad w2 w.heap.size w.heap.size { at_:=s.tok.at_ }:=by
  obtain⟨av,bv,ev,h0,h1,h2,h3⟩:=zad.alloc (show zad w1.drew w.heap.size w.heap.size { at_:=s.tok.at_ } from X) o
  have hkeep:∀ {e n:Nat} {v:Value} {size:Nat} {ys:List Value},e≠398→(w1.drew.alloc o).ownsRow w.heap.size e size v n ys→w2.ownsRow w.heap.size e size v n ys:=by
   intro e n v size ys hne h
   refine h.kept hg ?_
   rcases h.2 with⟨rfl,_⟩ | ⟨g',cap',cur,rfl,_,hh,_⟩
   ·exact .inl rfl
   ·right
    intro he
    exact zc3 R' (g:=g') (cs:=cur) hh (fun e'=>hne e'.symm) g' (by rw[← he];rfl) rfl
  exact⟨av,bv,ev,h0.append R' hg (by decide),hkeep (by decide) h1,hkeep (by decide) h2,hkeep (by decide) h3⟩
 have hne:w.heap.size≠C.tb:=(X2.ne T2 (by decide)).symm
 refine⟨E2.farT T2 (by decide) (by decide) _ _,⟨_,(T2.set_ 1 _).cast (by simp;rfl),?_⟩,?_,C2.setX E.bt (by simp) _⟩
 ·have:=zaj hrow T2 (by decide) 1 (.slice (some ⟨g,0,none⟩) (ptrs.length+1) cap)
  simpa using this
 ·obtain⟨av,bv,ev,h0,h1,h2,h3⟩:=X2
  exact⟨av,bv,ev,h0.far hne _,zaj h1 T2 (by decide) _ _,zaj h2 T2 (by decide) _ _,zaj h3 T2 (by decide) _ _⟩
def PC.at_ (C:PC)(rb:Nat):PC:={ C with rb:=rb }
theorem Env.rb {C:PC}{w:World}{s:Sc}(E:Env C w s)(r:Nat):Env (C.at_ r) w s:=⟨E.p,E.sc,E.at_,E.tsz,E.bs,E.bt⟩
theorem Env.un {C:PC}{w:World}{s:Sc}{r:Nat}(E:Env (C.at_ r) w s):Env C w s:=⟨E.p,E.sc,E.at_,E.tsz,E.bs,E.bt⟩
theorem TrAt.chg {C:PC}{w w1:World}{dv:Value}{ptrs:List Nat}{ts:List TypeId}{xs:List Nat}(h:TrAt C w dv ptrs)(hc:Chg C.B ts xs w w1)(h1:218 ∉ ts)(h2:398 ∉ ts)
  (hx:∀ g ∈ xs,∃ t cs,Blk w g t cs∧t≠218∧t≠398):TrAt C w1 dv ptrs:=by
 obtain⟨sv,hb,hr⟩:=h
 refine⟨sv,hb.chg hc h1 ?_,zcs hr hc h2 ?_⟩
 ·intro hm
  obtain⟨t,cs,h4,h5,_⟩:=hx _ hm
  exact h5 (Blk.inj h4 hb).1
 ·intro k hk hm
  obtain⟨t,cs,h4,_,h5⟩:=hx _ hm
  exact zc3 hr h4 (fun e=>h5 e.symm) k hk rfl
theorem zad.chgX {w w1:World}{B xb:Nat}{x:Stm}{B':Nat}{ts:List TypeId}{xs:List Nat}(h:zad w B xb x)(hc:Chg B' ts xs w w1)(h1:439 ∉ ts)(h2:220 ∉ ts)(h3:3 ∉ ts)
  (hb:xb ∉ xs) (hx:∀ g ∈ xs,∃ t cs,Blk w g t cs∧t≠220∧t≠3):zad w1 B xb x:=by
 obtain⟨av,bv,ev,h0,ha,hb',he⟩:=h
 refine⟨av,bv,ev,h0.chg hc h1 hb,zcs ha hc h2 ?_,zcs hb' hc h3 ?_,zcs he hc h3 ?_⟩
 ·intro k hk hm
  obtain⟨t,cs,h4,h5,_⟩:=hx _ hm
  exact zc3 ha h4 (fun e=>h5 e.symm) k hk rfl
 ·intro k hk hm
  obtain⟨t,cs,h4,_,h5⟩:=hx _ hm
  exact zc3 hb' h4 (fun e=>h5 e.symm) k hk rfl
 ·intro k hk hm
  obtain⟨t,cs,h4,_,h5⟩:=hx _ hm
  exact zc3 he h4 (fun e=>h5 e.symm) k hk rfl
theorem zav.mem {w:World}{B:Nat}:∀ {l:List Nat} {xs:List Stm},zav w B l xs→∀ b ∈ l,B≤b∧∃ x,zad w B b x
 | [],[],_,b,hb=>by cases hb
 | [],_::_,h,_,_=>h.elim
 | _::_,[],h,_,_=>h.elim
 | c::l,x::xs,h,b,hb=>by
  rcases List.mem_cons.1 hb with rfl | hb
  ·exact⟨h.1,x,h.2.1⟩
  ·exact zav.mem h.2.2 b hb
def StK (C:PC)(w:World)(dv:Value)(ptrs:List Nat)(l:List Stm)(s':Sc)(w':World):Prop :=
 ∃ news,Env C w' s'∧TrAt C w' dv (ptrs++news)∧zav w' w.heap.size news l
def WK (C:PC)(w:World)(xb:Nat)(dv:Value)(ptrs:List Nat)(p:List Stm)(s':Sc)(w':World):Prop :=
 ∃ x l,p=x::l∧zad w' C.rb xb x∧StK C w dv ptrs l s' w'
def zp2 (d:Nat):Prop:=∀ (C:PC) (w:World) (s:Sc) (dv:Value) (ptrs:List Nat),Env C w s→TrAt C w dv ptrs→ptrs.length≤s.at_+1→(s.kind≠0→ptrs.length≤s.at_) →
 Calls Tryz.prog 293 #[.pointer (some ⟨C.pb,0,none⟩),.int .i64 (d:Int)] w
  (Post C.B [398] [C.sb,C.tb] w (zbh C.t (7-d) d s ptrs.length) fun p v w'=>v=.int .i64 ptrs.length∧StK C w dv ptrs p.1 p.2 w')
def zhd (d:Nat):Prop:=∀ (C:PC) (w:World) (s:Sc) (dv:Value) (ptrs:List Nat),Env C w s→TrAt C w dv ptrs→ptrs.length≤s.at_+1→(s.kind≠0→ptrs.length≤s.at_) →
 Calls Tryz.prog 247 #[.pointer (some ⟨C.pb,0,none⟩),.int .i64 (d:Int)] w
  (Post C.B [398] [C.sb,C.tb] w (zdz C.t (zbh C.t (7-d) d) d s ptrs.length) fun p v w'=>zbe w' w.heap.size v p.1.1∧StK C w dv ptrs p.1.2 p.2 w')
def zpa (d:Nat):Prop:=∀ (C:PC) (w:World) (s:Sc) (x:Stm) (xb:Nat) (dv:Value) (ptrs:List Nat),Env C w s→TrAt C w dv ptrs→zad w C.rb xb x→x.has=false→C.B≤xb→C.rb≤w.heap.size→ptrs.length≤s.at_+1→0<ptrs.length →
 Calls Tryz.prog 311 #[.pointer (some ⟨C.pb,0,none⟩),.pointer (some ⟨xb,0,none⟩),.int .i64 (d:Int)] w
  (Post C.B [398] [C.sb,C.tb,xb] w (zbk C.t (zdz C.t (zbh C.t (6-d) (d+1)) (d+1)) s (ptrs.length-1) x) fun p v w'=>v=.tuple #[]∧WK C w xb dv ptrs p.1 p.2 w')
theorem Post.wide {α : Type}{B:Nat}{ts ts':List TypeId}{xs xs':List Nat}{w w':World}{r:Except Flt α}{K:α → Value→World→Prop}{e:Ending}(h:Post B ts xs w r K e w')(h1:∀ t ∈ ts,t ∈ ts')(h2:∀ x ∈ xs,x ∈ xs'):Post B ts' xs' w r K e w':=by
 rcases h with⟨a,v,p1,p2,p3,p4⟩ | ⟨f,b,p1,p2,p3,p4,p5⟩
 ·exact .inl ⟨a,v,p1,p2,p3,p4.mono h1 h2⟩
 ·exact .inr ⟨f,b,p1,p2,p3,p4,p5.mono h1 h2⟩
theorem StK.on {C:PC}{xb:Nat}{w w2 w3 w4:World}{s3 s4:Sc}{x3 x4:Stm}{dv:Value}{ptrs:List Nat}{l:List Stm}(X3:zad w3 C.rb xb x3)(hx:xb<w2.heap.size)(hsb:C.sb<w2.heap.size)(hle:w.heap.size≤w2.heap.size)
  (hK:StK C w2 dv ptrs l s3 w3) (S4:SEnv C xb w3 w4 s4 x4):StK C w dv ptrs l s4 w4:=by
 obtain⟨news,hE,hT,hS⟩:=hK
 obtain⟨cs3,h3⟩:=X3.blk
 refine⟨news,S4.e,?_,?_⟩
 ·refine hT.chg S4.c (by simp) (by simp) ?_
  intro g hg
  rcases(by simpa using hg)with rfl | rfl
  ·exact⟨_,_,hE.sc,by decide,by decide⟩
  ·exact⟨_,_,h3,by decide,by decide⟩
 ·refine hS.map hle fun b y hb hlb h=>(h.chgX S4.c (by simp) (by simp) (by simp) ?_ ?_).low hle
  ·simp;omega
  ·intro g hg
   rcases(by simpa using hg)with rfl | rfl
   ·exact⟨_,_,hE.sc,by decide,by decide⟩
   ·exact⟨_,_,h3,by decide,by decide⟩
theorem StK.around {C:PC}{xb:Nat}{w w2 w3 w4:World}{s2 s3 s4:Sc}{x2 x3 x4:Stm}{dv:Value}{ptrs:List Nat}{l:List Stm}(X3:zad w3 C.rb xb x3)(S2:SEnv C xb w w2 s2 x2)(hK:StK C w2 dv ptrs l s3 w3)(hch:Chg C.B [398] [C.sb,C.tb] w2 w3)(S4:SEnv C xb w3 w4 s4 x4) :
  StK C w dv ptrs l s4 w4∧Chg C.B [398] [C.sb,C.tb,xb] w w4 :=
 ⟨hK.on X3 S2.x.lt (Blk.lt S2.e.sc) S2.c.size S4,(S2.c.mono (by simp) (by simp)).trans ((hch.mono (by simp) (by simp)).trans (S4.c.mono (by simp) (by simp)))⟩
theorem TrAt.around {C:PC}{xb:Nat}{w w2:World}{s s0:Sc}{x x0:Stm}{dv:Value}{ptrs:List Nat}(S0:SEnv C xb w w s0 x0)(S:SEnv C xb w w2 s x)(T:TrAt C w dv ptrs):TrAt C w2 dv ptrs:=by
 refine T.chg S.c (by simp) (by simp) ?_
 obtain⟨cs,hcs⟩:=S0.x.blk
 intro g hg
 rcases(by simpa using hg)with rfl | rfl
 ·exact⟨_,_,S0.e.sc,by decide,by decide⟩
 ·exact⟨_,_,hcs,by decide,by decide⟩
theorem SEnv.after {C:PC}{xb:Nat}{w w2 w3:World}{s s3:Sc}{x:Stm}{dv:Value}{ptrs:List Nat}{l:List Stm}(S:SEnv C xb w w2 s x)(hK:StK C w2 dv ptrs l s3 w3)(hch:Chg C.B [398] [C.sb,C.tb] w2 w3)(T:TrAt C w2 dv ptrs):SEnv C xb w3 w3 s3 x:=by
 obtain⟨news,hE,_⟩:=hK
 obtain⟨tv,htb,_⟩:=T
 exact SEnv.start hE (S.x.chg hch (by decide) (by decide) (by decide) (by
  intro g hg
  rcases(by simpa using hg)with rfl | rfl
  ·exact⟨_,_,S.e.sc,by decide,by decide,by decide⟩
  ·exact⟨_,_,htb,by decide,by decide,by decide⟩)) S.bx (Nat.le_trans S.rbw hch.size)
theorem SEnv.setBody {C:PC}{xb:Nat}{w0 w:World}{s:Sc}{x:Stm}(S:SEnv C xb w0 w s x){v:Value}{l:List Nat}(hl:zbe w C.rb v l):SEnv C xb w0 (w.setCell ⟨xb,23,none⟩ v) s { x with body:=l }:=S.store _ _ (S.x.setBody hl)
theorem SEnv.setEls {C:PC}{xb:Nat}{w0 w:World}{s:Sc}{x:Stm}(S:SEnv C xb w0 w s x){v:Value}{l:List Nat}(hl:zbe w C.rb v l):SEnv C xb w0 (w.setCell ⟨xb,24,none⟩ v) s { x with els:=l }:=S.store _ _ (S.x.setEls hl)
theorem StK.two {C:PC}{xb:Nat}{w w4 w5 w6:World}{s4 s5 s6:Sc}{x5 x6 x7:Stm}{dv:Value}{ptrs news:List Nat}{l l':List Stm}
  (hS4:zav w4 w.heap.size news l) (hw:w.heap.size≤w4.heap.size) (hne:∀ b ∈ news,b≠xb∧b≠C.sb)
  (X6:zad w6 C.rb xb x6) (S5:SEnv C xb w4 w5 s4 x5) (S50:SEnv C xb w4 w4 s5 x7) (T5:TrAt C w5 dv (ptrs++news)) (hK:StK C w5 dv (ptrs++news) l' s6 w6) (hch:Chg C.B [398] [C.sb,C.tb] w5 w6) :
  StK C w dv ptrs (l++l') s6 w6:=by
 obtain⟨news',hE,hT,hS⟩:=hK
 obtain⟨cs,hcs⟩:=S50.x.blk
 obtain⟨tv,htb,_⟩:=T5
 refine⟨news++news',hE,by rw[← List.append_assoc];exact hT,zav.append ?_ ?_⟩
 ·refine hS4.map (Nat.le_refl _) fun b y hb hle h=>?_
  have h5:=h.chgX S5.c (by simp) (by simp) (by simp) (by simp[hne b hb]) (by
   intro g hg
   rcases(by simpa using hg)with rfl | rfl
   ·exact⟨_,_,S50.e.sc,by decide,by decide⟩
   ·exact⟨_,_,hcs,by decide,by decide⟩)
  exact h5.chg hch (by decide) (by decide) (by decide) (by
   intro g hg
   rcases(by simpa using hg)with rfl | rfl
   ·exact⟨_,_,S5.e.sc,by decide,by decide,by decide⟩
   ·exact⟨_,_,htb,by decide,by decide,by decide⟩)
 ·exact hS.map (Nat.le_trans hw S5.c.size) fun b y _ _ h=>h.low (Nat.le_trans hw S5.c.size)
end
section
open Go.RowKit
attribute [local go_sem] zaq
theorem zok (d:Nat)(hd:d≤6)(HBl0:zhd (d+1))(C:PC)(w:World)(s:Sc)(x:Stm)(xb:Nat)(dv:Value)(ptrs:List Nat)(E:Env C w s)(T:TrAt C w dv ptrs)(X:zad w C.rb xb x)(hhas:x.has=false)(hB:C.B≤xb)(hrb:C.rb≤w.heap.size)
  (hat:s.kind≠0→ptrs.length≤s.at_) (h0:0<ptrs.length) (wd:ByteArray) (wh:Bool) (hw:(wd.toList==[119,104,105,108,101])=wh) :
  Calls Tryz.prog 315 #[.pointer (some ⟨C.pb,0,none⟩),.pointer (some ⟨xb,0,none⟩),.string wd,.int .i64 (d:Int)] w
   (Post C.B [398] [C.sb,C.tb,xb] w (zht C.t (zdz C.t (zbh C.t (6-d) (d+1)) (d+1)) wh s (ptrs.length-1) x) fun p v w'=>v=.tuple #[]∧WK C w xb dv ptrs p.1 p.2 w'):=by
 have S0:=zH (SEnv.start E X hB hrb)
 have hd7:7-(d+1)=6-d:=by omega
 have HBl:=HBl0
 unfold zhd at HBl
 rw[hd7]at HBl
 obtain⟨bl,hbl⟩:∃ bl,bl=zdz C.t (zbh C.t (6-d) (d+1)) (d+1):=⟨_,rfl⟩
 have HB2:=HBl C
 rw[← hbl]at HB2 ⊢
 have HBL:=zH hbl
 have MD0:=zH (zht.eq_1 C.t bl wh s (ptrs.length-1) x)
 obtain⟨M,hM⟩:∃ M,M=zht C.t bl wh s (ptrs.length-1) x:=⟨_,rfl⟩
 rw[← hM]at MD0 ⊢
 obtain⟨hp0,hs0,hx0⟩:=S0.out.cells
 obtain⟨av0,bv0,ev0,hy0,_⟩:=S0.out.x.cells
 obtain⟨hne1,hne2⟩:=S0.out.ne
 have HT:=zH T
 clear E X T HBl HBl0 hM hbl
 go_enter Tryz.func315,Tryz.ntmps315
 go_wp2_with fail
 refine(zgt S0.out.e).mono ?_
 rintro e w1 (⟨p1,v,hr,rfl,⟨rfl,hE⟩,hch⟩ | ⟨f,b,hr,rfl,hfb,hle,hch⟩)
 rotate_left
 ·exact⟨rfl,(S0.out.fault (by have md:=MD0.out;rw[hr]at md;exact md) hfb hle hch).wide (by simp) (by intro g hg;simp at hg ⊢;omega)⟩
 have R1:=zH hr
 have md:=MD0.out
 rw[hr,zae]at md
 have MD1:=zH md
 have S1:=zH (S0.out.scan hE hch)
 obtain⟨hp1,hs1,hx1⟩:=S1.out.cells
 obtain⟨av1,bv1,ev1,hy1,_⟩:=S1.out.x.cells
 obtain⟨hl1,hm1,hn1⟩:=S1.out.lts
 clear hr hE hch md
 go_wp2_with fail
 refine zag (fun W=>SEnv C xb w W p1.2 { x with op:=14,y:=p1.1 }) ((S1.out.setY p1.1).setOp 14) ?_
 intro w2 hS2
 have S2:=zH hS2
 obtain⟨hp2,hs2,hx2⟩:=hS2.cells
 obtain⟨av2,bv2,ev2,hy2,_⟩:=hS2.x.cells
 obtain⟨hl2,hm2,hn2⟩:=hS2.lts
 clear hS2
 have hat2:=zh5 R1.out
 have hat3:=(zcv hat2.2.1 S0.out.e.at_).2
 have hat4:=hat (by omega)
 have hk1:ptrs.length-1+1=ptrs.length:=by omega
 have TT3:=zH (TrAt.around S0.out S2.out HT.out)
 refine(HB2 w2 p1.2 dv ptrs S2.out.e TT3.out (by omega) (fun _=>by omega)).mono ?_
 rintro e w3 (⟨p3,v3,hr,rfl,⟨hI,hK⟩,hch⟩ | ⟨f,b,hr,rfl,hfb,hle,hch⟩)
 rotate_left
 ·exact⟨rfl,.inr ⟨f,b,by have md:=MD1.out;rw[hk1,hr]at md;exact md,rfl,hfb,Nat.le_trans S2.out.c.size hle,(S2.out.c.mono (by simp) (by intro g hg;simp at hg ⊢;omega)).trans (hch.mono (by simp) (by intro g hg;simp at hg ⊢;omega))⟩⟩
 have R3:=zH hr
 have K3:=zH hK
 have C3:=zH hch
 have I3:=zH (show zbe w3 C.rb v3 p3.1.1 from zbn hI S2.out.rbw)
 obtain⟨a3,c3,hv⟩:=zat hI
 subst hv
 have S3:=zH (SEnv.after S2.out hK hch TT3.out)
 obtain⟨hp3,hs3,hx3⟩:=S3.out.cells
 obtain⟨av3,bv3,ev3,hy3,_⟩:=S3.out.x.cells
 obtain⟨hl3,hm3,hn3⟩:=S3.out.lts
 clear hr hK hch hI
 have mdd:=MD1.out
 rw[hk1,R3.out,zae]at mdd
 cases wh
 ·rw[if_neg (by simp)]at mdd
  have MD3:=zH mdd
  clear mdd
  go_wp2_with fail
  refine zag (fun W=>SEnv C xb w3 W p3.2 { x with op:=13,y:=p1.1,body:=p3.1.1 }) ((S3.out.setBody I3.out).setOp 13) ?_
  intro w4 hS4
  have S4:=zH hS4
  obtain⟨hp4,hs4,hx4⟩:=hS4.cells
  obtain⟨av4,bv4,ev4,hy4,_⟩:=hS4.x.cells
  obtain⟨hl4,hm4,hn4⟩:=hS4.lts
  clear hS4
  cases hel:za5 p3.2 wElse
  ·have HEL:=zH hel
   have mdd:=MD3.out
   rw[hel,if_neg (by simp)]at mdd
   have MD4:=zH mdd
   clear hel mdd
   refine(zc4 S4.out.e wElse).mono ?_
   rw[HEL.out]
   rintro e w' ⟨rfl,rfl⟩
   have F:=zH (S4.out.setHas false)
   go_wp2_with fail
   go_end0
   obtain⟨hk,hc⟩:=StK.around S3.out.x S2.out K3.out C3.out F.out
   exact .inl ⟨(_,p3.2),_,MD4.out,rfl,⟨rfl,_,_,rfl,by rw[hhas];exact F.out.x,hk⟩,hc⟩
  ·have HEL:=zH hel
   have mdd:=MD3.out
   rw[hel,if_pos rfl]at mdd
   have MD4:=zH mdd
   clear hel mdd
   refine(zc4 S4.out.e wElse).mono ?_
   rw[HEL.out]
   rintro e w' ⟨rfl,rfl⟩
   go_wp2_with fail
   refine zag (fun W=>SEnv C xb w3 W p3.2 { x with op:=13,y:=p1.1,body:=p3.1.1,has:=true }) (S4.out.setHas true) ?_
   intro w5 hS5
   have S5:=zH hS5
   obtain⟨hp5,hs5,hx5⟩:=hS5.cells
   obtain⟨av5,bv5,ev5,hy5,_⟩:=hS5.x.cells
   obtain⟨hl5,hm5,hn5⟩:=hS5.lts
   clear hS5
   have CC:=zH (StK.around S3.out.x S2.out K3.out C3.out S5.out).2
   refine(zck S5.out.e).mono ?_
   rintro e w6 (⟨p6,v,hr,rfl,⟨rfl,hE⟩,hch⟩ | ⟨f,b,hr,rfl,hfb,hle,hch⟩)
   rotate_left
   ·exact⟨rfl,.inr ⟨f,b,by have md:=MD4.out;rw[hr]at md;exact md,rfl,hfb,Nat.le_trans CC.out.size hle,CC.out.trans (hch.mono (by simp) (by intro g hg;simp at hg ⊢;omega))⟩⟩
   have R6:=zH hr
   have mdd:=MD4.out
   rw[hr,zae]at mdd
   have MD6:=zH mdd
   have S6:=zH (S5.out.scan hE hch)
   have C6:=zH (CC.out.trans (hch.mono (ts':=[398]) (xs':=[C.sb,C.tb,xb]) (by simp) (by intro g hg;simp at hg ⊢;omega)))
   obtain⟨hp6,hs6,hx6⟩:=S6.out.cells
   obtain⟨hl6,hm6,hn6⟩:=S6.out.lts
   clear hr hE hch mdd
   obtain⟨news,hE3,hT3,hS3⟩:=K3.out
   have T6:=zH (TrAt.around S3.out S6.out hT3)
   have hnl:=hS3.length
   have hS3':=zH hS3
   have htk:zfj C.t p1.2 p3.2 p3.1.2.length:=by
    have h:=R3.out
    rw[HBL.out]at h
    exact zmg (fun s k p h hs=>zk2 _ _ s k p h hs) h S2.out.e.at_
   have hat6:ptrs.length+news.length≤p6.at_:=by
    have:=(zcv R6.out S5.out.e.at_).2
    have:=htk.2
    omega
   have hlen:(ptrs++news).length=ptrs.length+news.length:=by simp
   clear hE3 hT3 hS3
   go_wp2_with fail
   refine(HB2 w6 p6 dv (ptrs++news) S6.out.e T6.out (by rw[hlen];omega) (fun _=>by rw[hlen];omega)).mono ?_
   rw[hlen,hnl]
   rintro e w7 (⟨p7,v7,hr,rfl,⟨hI,hK⟩,hch⟩ | ⟨f,b,hr,rfl,hfb,hle,hch⟩)
   rotate_left
   ·exact⟨rfl,.inr ⟨f,b,by have md:=MD6.out;rw[hr]at md;exact md,rfl,hfb,Nat.le_trans C6.out.size hle,C6.out.trans (hch.mono (by simp) (by intro g hg;simp at hg ⊢;omega))⟩⟩
   have mdd:=MD6.out
   rw[hr,zae]at mdd
   have MD7:=zH mdd
   have I7:=zH (show zbe w7 C.rb v7 p7.1.1 from zbn hI S6.out.rbw)
   obtain⟨a7,c7,hv⟩:=zat hI
   subst hv
   have S7:=zH (SEnv.after S6.out hK hch T6.out)
   have K7:=zH (show StK C w dv ptrs (p3.1.2++p7.1.2) p7.2 w7 from StK.two (hS3'.out.map S2.out.c.size fun _ _ _ _ h=>h.low S2.out.c.size) (Nat.le_trans S2.out.c.size C3.out.size) (fun b hb=>by
    have:=(hS3'.out.mem b hb).1
    have:=S2.out.x.lt
    have:=Blk.lt S2.out.e.sc
    omega) S7.out.x S6.out S3.out T6.out hK hch)
   have C7:=zH (C6.out.trans (hch.mono (ts':=[398]) (xs':=[C.sb,C.tb,xb]) (by simp) (by simp)))
   obtain⟨hp7,hs7,hx7⟩:=S7.out.cells
   obtain⟨av7,bv7,ev7,hy7,_⟩:=S7.out.x.cells
   obtain⟨hl7,hm7,hn7⟩:=S7.out.lts
   have F:=zH (S7.out.setEls I7.out)
   clear hr hK hch hI mdd
   go_wp2_with fail
   go_end0
   exact .inl ⟨(_,p7.2),_,MD7.out,rfl,⟨rfl,_,_,rfl,F.out.x,K7.out.on S7.out.x S0.out.x.lt (Blk.lt S0.out.e.sc) (Nat.le_refl _) F.out⟩,C7.out.trans (F.out.c.mono (by simp) (by simp))⟩
 ·rw[if_pos rfl]at mdd
  have MD3:=zH mdd
  clear mdd
  have F:=zH (S3.out.setBody I3.out)
  go_wp2_with fail
  go_end0
  obtain⟨hk,hc⟩:=StK.around S3.out.x S2.out K3.out C3.out F.out
  exact .inl ⟨(_,p3.2),_,MD3.out,rfl,⟨rfl,_,_,rfl,F.out.x,hk⟩,hc⟩
end
section
open Go.RowKit
attribute [local go_sem] zaq
set_option linter.unusedSimpArgs false
theorem WK.one {C:PC}{xb:Nat}{w w2:World}{s0 s2:Sc}{x0 x2:Stm}{dv:Value}{ptrs:List Nat}{M:Except Flt (List Stm×Sc)}(S0:SEnv C xb w w s0 x0)(S:SEnv C xb w w2 s2 x2)(T:TrAt C w dv ptrs)(hM:M=.ok ([x2],s2)) :
  Post C.B [398] [C.sb,C.tb,xb] w M (fun p v w'=>v=.tuple #[]∧WK C w xb dv ptrs p.1 p.2 w') (.returned (.tuple #[])) w2 :=
 .inl ⟨_,_,hM,rfl,⟨rfl,x2,[],rfl,S.x,[],S.e,by rw[List.append_nil];exact TrAt.around S0 S T,trivial⟩,S.c.mono (by simp) (by simp)⟩
theorem zay {a:ByteArray}{l m:List UInt8}(h:a.toList=l)(hn:(l==m)=false):(a.toList==m)=false:=by rw[h];exact hn
theorem zh4 {a:ByteArray}{l:List UInt8}(h:a.toList=l):(a.toList==l)=true:=by rw[h];simp
theorem zao {a:ByteArray}{l:List UInt8}{b:Bool}(h:(a.toList==l)=b):eqB a (bytes l)=b:=(zi7 _ _).symm.trans h
theorem zs4 (d:Nat)(bl:Sc→Nat→Except Flt ((List Nat×List Stm)×Sc))(C:PC)(w:World)(s:Sc)(x:Stm)(xb:Nat)(dv:Value)(ptrs:List Nat)(E:Env C w s)(T:TrAt C w dv ptrs)(X:zad w C.rb xb x)(hB:C.B≤xb)(hrb:C.rb≤w.heap.size)
  (q1:(s.tok.text.toList==[108,111,99,107])=true) (q2:(s.tok.text.toList==[117,110,108,111,99,107])=false) (q3:(s.tok.text.toList==[106,111,105,110])=false) (q4:(s.tok.text.toList==[114,101,116,117,114,110])=false) (q5:(s.tok.text.toList==[105,102])=false) (q6:(s.tok.text.toList==[119,104,105,108,101])=false) (q7:(s.tok.text.toList==[103,111])=false) :
  Calls Tryz.prog 311 #[.pointer (some ⟨C.pb,0,none⟩),.pointer (some ⟨xb,0,none⟩),.int .i64 (d:Int)] w
   (Post C.B [398] [C.sb,C.tb,xb] w (zbk C.t bl s (ptrs.length-1) x) fun p v w'=>v=.tuple #[]∧WK C w xb dv ptrs p.1 p.2 w'):=by
 have S0:=zH (SEnv.start E X hB hrb)
 have HT:=zH T
 have e1:eqB s.tok.text zg7=_:=zao q1
 have e2:eqB s.tok.text zgb=_:=zao q2
 have e3:eqB s.tok.text zf6=_:=zao q3
 have e4:eqB s.tok.text zgv=_:=zao q4
 have e5:eqB s.tok.text wIf=_:=zao q5
 have e6:eqB s.tok.text zgk=_:=zao q6
 have e7:eqB s.tok.text wGo=_:=zao q7
 have mdd:=zbk.eq_1 C.t bl s (ptrs.length-1) x
 simp only[e1,e2,e3,e4,e5,e6,e7,Bool.or_true,Bool.true_or,Bool.or_false,Bool.or_self,Bool.false_eq_true,if_true,if_false]at mdd
 have MD0:=zH mdd
 obtain⟨M,hM⟩:∃ M,M=zbk C.t bl s (ptrs.length-1) x:=⟨_,rfl⟩
 rw[← hM]at MD0 ⊢
 obtain⟨hp0,hs0,hx0⟩:=S0.out.cells
 obtain⟨av0,bv0,ev0,hy0,_⟩:=S0.out.x.cells
 obtain⟨hne1,hne2⟩:=S0.out.ne
 clear E T X hM mdd e1 e2 e3 e4 e5 e6 e7
 go_enter Tryz.func311,Tryz.ntmps311
 go_wp2_with fail
 refine(zck S0.out.e).mono ?_
 rintro e w1 (⟨p1,v,hr,rfl,⟨rfl,hE⟩,hch⟩ | ⟨f,b,hr,rfl,hfb,hle,hch⟩)
 rotate_left
 ·exact⟨rfl,(S0.out.fault (by have md:=MD0.out;rw[hr]at md;exact md) hfb hle hch).wide (by simp) (by intro g hg;simp at hg ⊢;omega)⟩
 have R1:=zH hr
 have md:=MD0.out
 rw[hr,zae]at md
 have MD1:=zH md
 have S1:=zH (S0.out.scan hE hch)
 obtain⟨hp1,hs1,hx1⟩:=S1.out.cells
 obtain⟨av1,bv1,ev1,hy1,_⟩:=S1.out.x.cells
 obtain⟨hl1,hm1,hn1⟩:=S1.out.lts
 clear hr hE hch md
 go_wp2_with fail
 refine zag (fun W=>SEnv C xb w W p1 { x with op:=9 }) (S1.out.setOp 9) ?_
 intro w2 hS2
 have S2:=zH hS2
 obtain⟨hp2,hs2,hx2⟩:=hS2.cells
 obtain⟨av2,bv2,ev2,hy2,_⟩:=hS2.x.cells
 obtain⟨hl2,hm2,hn2⟩:=hS2.lts
 clear hS2
 refine(zf8 S2.out.e).mono ?_
 rintro e w3 (⟨p3,v,hr,rfl,⟨rfl,hE⟩,hch⟩ | ⟨f,b,hr,rfl,hfb,hle,hch⟩)
 rotate_left
 ·exact⟨rfl,(S2.out.fault (by have md:=MD1.out;rw[hr]at md;exact md) hfb hle hch).wide (by simp) (by intro g hg;simp at hg ⊢;omega)⟩
 have R3:=zH hr
 have md:=MD1.out
 rw[hr,zae]at md
 have MD2:=zH md
 have S3:=zH (S2.out.scan hE hch)
 obtain⟨hp3,hs3,hx3⟩:=S3.out.cells
 obtain⟨av3,bv3,ev3,hy3,_⟩:=S3.out.x.cells
 obtain⟨hl3,hm3,hn3⟩:=S3.out.lts
 clear hr hE hch md
 go_wp2_with fail
 refine zag (fun W=>SEnv C xb w W p3.2 { x with op:=9,y:=p3.1 }) (S3.out.setY p3.1) ?_
 intro w4 hS4
 have S4:=zH hS4
 obtain⟨hp4,hs4,hx4⟩:=hS4.cells
 obtain⟨av4,bv4,ev4,hy4,_⟩:=hS4.x.cells
 obtain⟨hl4,hm4,hn4⟩:=hS4.lts
 clear hS4
 refine(zcu S4.out.e 59).mono ?_
 rintro e w5 (⟨p5,v,hr,rfl,⟨rfl,hE⟩,hch⟩ | ⟨f,b,hr,rfl,hfb,hle,hch⟩)
 rotate_left
 ·exact⟨rfl,(S4.out.fault (by have md:=MD2.out;rw[hr]at md;exact md) hfb hle hch).wide (by simp) (by intro g hg;simp at hg ⊢;omega)⟩
 have R5:=zH hr
 have md:=MD2.out
 rw[hr,zae]at md
 have MD3:=zH md
 have S5:=zH (S4.out.scan hE hch)
 obtain⟨hp5,hs5,hx5⟩:=S5.out.cells
 obtain⟨av5,bv5,ev5,hy5,_⟩:=S5.out.x.cells
 obtain⟨hl5,hm5,hn5⟩:=S5.out.lts
 clear hr hE hch md
 go_wp2_with fail
 go_end0
 exact WK.one S0.out S5.out HT.out MD3.out
theorem zwn (d:Nat)(bl:Sc→Nat→Except Flt ((List Nat×List Stm)×Sc))(C:PC)(w:World)(s:Sc)(x:Stm)(xb:Nat)(dv:Value)(ptrs:List Nat)(E:Env C w s)(T:TrAt C w dv ptrs)(X:zad w C.rb xb x)(hB:C.B≤xb)(hrb:C.rb≤w.heap.size)
  (q1:(s.tok.text.toList==[108,111,99,107])=false) (q2:(s.tok.text.toList==[117,110,108,111,99,107])=true) (q3:(s.tok.text.toList==[106,111,105,110])=false) (q4:(s.tok.text.toList==[114,101,116,117,114,110])=false) (q5:(s.tok.text.toList==[105,102])=false) (q6:(s.tok.text.toList==[119,104,105,108,101])=false) (q7:(s.tok.text.toList==[103,111])=false) :
  Calls Tryz.prog 311 #[.pointer (some ⟨C.pb,0,none⟩),.pointer (some ⟨xb,0,none⟩),.int .i64 (d:Int)] w
   (Post C.B [398] [C.sb,C.tb,xb] w (zbk C.t bl s (ptrs.length-1) x) fun p v w'=>v=.tuple #[]∧WK C w xb dv ptrs p.1 p.2 w'):=by
 have S0:=zH (SEnv.start E X hB hrb)
 have HT:=zH T
 have e1:eqB s.tok.text zg7=_:=zao q1
 have e2:eqB s.tok.text zgb=_:=zao q2
 have e3:eqB s.tok.text zf6=_:=zao q3
 have e4:eqB s.tok.text zgv=_:=zao q4
 have e5:eqB s.tok.text wIf=_:=zao q5
 have e6:eqB s.tok.text zgk=_:=zao q6
 have e7:eqB s.tok.text wGo=_:=zao q7
 have mdd:=zbk.eq_1 C.t bl s (ptrs.length-1) x
 simp only[e1,e2,e3,e4,e5,e6,e7,Bool.or_true,Bool.true_or,Bool.or_false,Bool.or_self,Bool.false_eq_true,if_true,if_false]at mdd
 have MD0:=zH mdd
 obtain⟨M,hM⟩:∃ M,M=zbk C.t bl s (ptrs.length-1) x:=⟨_,rfl⟩
 rw[← hM]at MD0 ⊢
 obtain⟨hp0,hs0,hx0⟩:=S0.out.cells
 obtain⟨av0,bv0,ev0,hy0,_⟩:=S0.out.x.cells
 obtain⟨hne1,hne2⟩:=S0.out.ne
 clear E T X hM mdd e1 e2 e3 e4 e5 e6 e7
 go_enter Tryz.func311,Tryz.ntmps311
 go_wp2_with fail
 refine(zck S0.out.e).mono ?_
 rintro e w1 (⟨p1,v,hr,rfl,⟨rfl,hE⟩,hch⟩ | ⟨f,b,hr,rfl,hfb,hle,hch⟩)
 rotate_left
 ·exact⟨rfl,(S0.out.fault (by have md:=MD0.out;rw[hr]at md;exact md) hfb hle hch).wide (by simp) (by intro g hg;simp at hg ⊢;omega)⟩
 have R1:=zH hr
 have md:=MD0.out
 rw[hr,zae]at md
 have MD1:=zH md
 have S1:=zH (S0.out.scan hE hch)
 obtain⟨hp1,hs1,hx1⟩:=S1.out.cells
 obtain⟨av1,bv1,ev1,hy1,_⟩:=S1.out.x.cells
 obtain⟨hl1,hm1,hn1⟩:=S1.out.lts
 clear hr hE hch md
 go_wp2_with fail
 refine zag (fun W=>SEnv C xb w W p1 { x with op:=10 }) ((S1.out.setOp 9).setOp 10) ?_
 intro w2 hS2
 have S2:=zH hS2
 obtain⟨hp2,hs2,hx2⟩:=hS2.cells
 obtain⟨av2,bv2,ev2,hy2,_⟩:=hS2.x.cells
 obtain⟨hl2,hm2,hn2⟩:=hS2.lts
 clear hS2
 refine(zf8 S2.out.e).mono ?_
 rintro e w3 (⟨p3,v,hr,rfl,⟨rfl,hE⟩,hch⟩ | ⟨f,b,hr,rfl,hfb,hle,hch⟩)
 rotate_left
 ·exact⟨rfl,(S2.out.fault (by have md:=MD1.out;rw[hr]at md;exact md) hfb hle hch).wide (by simp) (by intro g hg;simp at hg ⊢;omega)⟩
 have R3:=zH hr
 have md:=MD1.out
 rw[hr,zae]at md
 have MD2:=zH md
 have S3:=zH (S2.out.scan hE hch)
 obtain⟨hp3,hs3,hx3⟩:=S3.out.cells
 obtain⟨av3,bv3,ev3,hy3,_⟩:=S3.out.x.cells
 obtain⟨hl3,hm3,hn3⟩:=S3.out.lts
 clear hr hE hch md
 go_wp2_with fail
 refine zag (fun W=>SEnv C xb w W p3.2 { x with op:=10,y:=p3.1 }) (S3.out.setY p3.1) ?_
 intro w4 hS4
 have S4:=zH hS4
 obtain⟨hp4,hs4,hx4⟩:=hS4.cells
 obtain⟨av4,bv4,ev4,hy4,_⟩:=hS4.x.cells
 obtain⟨hl4,hm4,hn4⟩:=hS4.lts
 clear hS4
 refine(zcu S4.out.e 59).mono ?_
 rintro e w5 (⟨p5,v,hr,rfl,⟨rfl,hE⟩,hch⟩ | ⟨f,b,hr,rfl,hfb,hle,hch⟩)
 rotate_left
 ·exact⟨rfl,(S4.out.fault (by have md:=MD2.out;rw[hr]at md;exact md) hfb hle hch).wide (by simp) (by intro g hg;simp at hg ⊢;omega)⟩
 have R5:=zH hr
 have md:=MD2.out
 rw[hr,zae]at md
 have MD3:=zH md
 have S5:=zH (S4.out.scan hE hch)
 obtain⟨hp5,hs5,hx5⟩:=S5.out.cells
 obtain⟨av5,bv5,ev5,hy5,_⟩:=S5.out.x.cells
 obtain⟨hl5,hm5,hn5⟩:=S5.out.lts
 clear hr hE hch md
 go_wp2_with fail
 go_end0
 exact WK.one S0.out S5.out HT.out MD3.out
theorem zu3 (d:Nat)(bl:Sc→Nat→Except Flt ((List Nat×List Stm)×Sc))(C:PC)(w:World)(s:Sc)(x:Stm)(xb:Nat)(dv:Value)(ptrs:List Nat)(E:Env C w s)(T:TrAt C w dv ptrs)(X:zad w C.rb xb x)(hB:C.B≤xb)(hrb:C.rb≤w.heap.size)
  (q1:(s.tok.text.toList==[108,111,99,107])=false) (q2:(s.tok.text.toList==[117,110,108,111,99,107])=false) (q3:(s.tok.text.toList==[106,111,105,110])=true) (q4:(s.tok.text.toList==[114,101,116,117,114,110])=false) (q5:(s.tok.text.toList==[105,102])=false) (q6:(s.tok.text.toList==[119,104,105,108,101])=false) (q7:(s.tok.text.toList==[103,111])=false) :
  Calls Tryz.prog 311 #[.pointer (some ⟨C.pb,0,none⟩),.pointer (some ⟨xb,0,none⟩),.int .i64 (d:Int)] w
   (Post C.B [398] [C.sb,C.tb,xb] w (zbk C.t bl s (ptrs.length-1) x) fun p v w'=>v=.tuple #[]∧WK C w xb dv ptrs p.1 p.2 w'):=by
 have S0:=zH (SEnv.start E X hB hrb)
 have HT:=zH T
 have e1:eqB s.tok.text zg7=_:=zao q1
 have e2:eqB s.tok.text zgb=_:=zao q2
 have e3:eqB s.tok.text zf6=_:=zao q3
 have e4:eqB s.tok.text zgv=_:=zao q4
 have e5:eqB s.tok.text wIf=_:=zao q5
 have e6:eqB s.tok.text zgk=_:=zao q6
 have e7:eqB s.tok.text wGo=_:=zao q7
 have mdd:=zbk.eq_1 C.t bl s (ptrs.length-1) x
 simp only[e1,e2,e3,e4,e5,e6,e7,Bool.or_true,Bool.true_or,Bool.or_false,Bool.or_self,Bool.false_eq_true,if_true,if_false]at mdd
 have MD0:=zH mdd
 obtain⟨M,hM⟩:∃ M,M=zbk C.t bl s (ptrs.length-1) x:=⟨_,rfl⟩
 rw[← hM]at MD0 ⊢
 obtain⟨hp0,hs0,hx0⟩:=S0.out.cells
 obtain⟨av0,bv0,ev0,hy0,_⟩:=S0.out.x.cells
 obtain⟨hne1,hne2⟩:=S0.out.ne
 clear E T X hM mdd e1 e2 e3 e4 e5 e6 e7
 go_enter Tryz.func311,Tryz.ntmps311
 go_wp2_with fail
 refine(zck S0.out.e).mono ?_
 rintro e w1 (⟨p1,v,hr,rfl,⟨rfl,hE⟩,hch⟩ | ⟨f,b,hr,rfl,hfb,hle,hch⟩)
 rotate_left
 ·exact⟨rfl,(S0.out.fault (by have md:=MD0.out;rw[hr]at md;exact md) hfb hle hch).wide (by simp) (by intro g hg;simp at hg ⊢;omega)⟩
 have R1:=zH hr
 have md:=MD0.out
 rw[hr,zae]at md
 have MD1:=zH md
 have S1:=zH (S0.out.scan hE hch)
 obtain⟨hp1,hs1,hx1⟩:=S1.out.cells
 obtain⟨av1,bv1,ev1,hy1,_⟩:=S1.out.x.cells
 obtain⟨hl1,hm1,hn1⟩:=S1.out.lts
 clear hr hE hch md
 go_wp2_with fail
 refine zag (fun W=>SEnv C xb w W p1 { x with op:=8 }) ((S1.out.setOp 9).setOp 8) ?_
 intro w2 hS2
 have S2:=zH hS2
 obtain⟨hp2,hs2,hx2⟩:=hS2.cells
 obtain⟨av2,bv2,ev2,hy2,_⟩:=hS2.x.cells
 obtain⟨hl2,hm2,hn2⟩:=hS2.lts
 clear hS2
 refine(zf8 S2.out.e).mono ?_
 rintro e w3 (⟨p3,v,hr,rfl,⟨rfl,hE⟩,hch⟩ | ⟨f,b,hr,rfl,hfb,hle,hch⟩)
 rotate_left
 ·exact⟨rfl,(S2.out.fault (by have md:=MD1.out;rw[hr]at md;exact md) hfb hle hch).wide (by simp) (by intro g hg;simp at hg ⊢;omega)⟩
 have R3:=zH hr
 have md:=MD1.out
 rw[hr,zae]at md
 have MD2:=zH md
 have S3:=zH (S2.out.scan hE hch)
 obtain⟨hp3,hs3,hx3⟩:=S3.out.cells
 obtain⟨av3,bv3,ev3,hy3,_⟩:=S3.out.x.cells
 obtain⟨hl3,hm3,hn3⟩:=S3.out.lts
 clear hr hE hch md
 go_wp2_with fail
 refine zag (fun W=>SEnv C xb w W p3.2 { x with op:=8,y:=p3.1 }) (S3.out.setY p3.1) ?_
 intro w4 hS4
 have S4:=zH hS4
 obtain⟨hp4,hs4,hx4⟩:=hS4.cells
 obtain⟨av4,bv4,ev4,hy4,_⟩:=hS4.x.cells
 obtain⟨hl4,hm4,hn4⟩:=hS4.lts
 clear hS4
 refine(zcu S4.out.e 59).mono ?_
 rintro e w5 (⟨p5,v,hr,rfl,⟨rfl,hE⟩,hch⟩ | ⟨f,b,hr,rfl,hfb,hle,hch⟩)
 rotate_left
 ·exact⟨rfl,(S4.out.fault (by have md:=MD2.out;rw[hr]at md;exact md) hfb hle hch).wide (by simp) (by intro g hg;simp at hg ⊢;omega)⟩
 have R5:=zH hr
 have md:=MD2.out
 rw[hr,zae]at md
 have MD3:=zH md
 have S5:=zH (S4.out.scan hE hch)
 obtain⟨hp5,hs5,hx5⟩:=S5.out.cells
 obtain⟨av5,bv5,ev5,hy5,_⟩:=S5.out.x.cells
 obtain⟨hl5,hm5,hn5⟩:=S5.out.lts
 clear hr hE hch md
 go_wp2_with fail
 go_end0
 exact WK.one S0.out S5.out HT.out MD3.out
theorem zxa (d:Nat)(bl:Sc→Nat→Except Flt ((List Nat×List Stm)×Sc))(C:PC)(w:World)(s:Sc)(x:Stm)(xb:Nat)(dv:Value)(ptrs:List Nat)(E:Env C w s)(T:TrAt C w dv ptrs)(X:zad w C.rb xb x)(hB:C.B≤xb)(hrb:C.rb≤w.heap.size)
  (q1:(s.tok.text.toList==[108,111,99,107])=false) (q2:(s.tok.text.toList==[117,110,108,111,99,107])=false) (q3:(s.tok.text.toList==[106,111,105,110])=false) (q4:(s.tok.text.toList==[114,101,116,117,114,110])=false) (q5:(s.tok.text.toList==[105,102])=false) (q6:(s.tok.text.toList==[119,104,105,108,101])=false) (q7:(s.tok.text.toList==[103,111])=false) :
  Calls Tryz.prog 311 #[.pointer (some ⟨C.pb,0,none⟩),.pointer (some ⟨xb,0,none⟩),.int .i64 (d:Int)] w
   (Post C.B [398] [C.sb,C.tb,xb] w (zbk C.t bl s (ptrs.length-1) x) fun p v w'=>v=.tuple #[]∧WK C w xb dv ptrs p.1 p.2 w'):=by
 have S0:=zH (SEnv.start E X hB hrb)
 have HT:=zH T
 have e1:eqB s.tok.text zg7=_:=zao q1
 have e2:eqB s.tok.text zgb=_:=zao q2
 have e3:eqB s.tok.text zf6=_:=zao q3
 have e4:eqB s.tok.text zgv=_:=zao q4
 have e5:eqB s.tok.text wIf=_:=zao q5
 have e6:eqB s.tok.text zgk=_:=zao q6
 have e7:eqB s.tok.text wGo=_:=zao q7
 have mdd:=zbk.eq_1 C.t bl s (ptrs.length-1) x
 simp only[e1,e2,e3,e4,e5,e6,e7,Bool.or_true,Bool.true_or,Bool.or_false,Bool.or_self,Bool.false_eq_true,if_true,if_false]at mdd
 have MD0:=zH mdd
 obtain⟨M,hM⟩:∃ M,M=zbk C.t bl s (ptrs.length-1) x:=⟨_,rfl⟩
 rw[← hM]at MD0 ⊢
 obtain⟨hp0,hs0,hx0⟩:=S0.out.cells
 obtain⟨av0,bv0,ev0,hy0,_⟩:=S0.out.x.cells
 obtain⟨hne1,hne2⟩:=S0.out.ne
 clear E T X hM mdd e1 e2 e3 e4 e5 e6 e7
 go_enter Tryz.func311,Tryz.ntmps311
 go_wp2_with fail
 refine(zfb _ _ _).mono ?_
 rintro e w4 ⟨rfl,rfl⟩
 exact⟨rfl,.inr ⟨_,_,MD0.out,rfl,za1.new (by simp),Nat.le_refl _,(Chg.refl _ _ _ _).alloc _⟩⟩
end
section
open Go.RowKit
attribute [local go_sem] zaq
set_option linter.unusedSimpArgs false
theorem ztj (d:Nat)(bl:Sc→Nat→Except Flt ((List Nat×List Stm)×Sc))(C:PC)(w:World)(s:Sc)(x:Stm)(xb:Nat)(dv:Value)(ptrs:List Nat)(E:Env C w s)(T:TrAt C w dv ptrs)(X:zad w C.rb xb x)(hB:C.B≤xb)(hrb:C.rb≤w.heap.size)
  (q1:(s.tok.text.toList==[108,111,99,107])=false) (q2:(s.tok.text.toList==[117,110,108,111,99,107])=false) (q3:(s.tok.text.toList==[106,111,105,110])=false) (q4:(s.tok.text.toList==[114,101,116,117,114,110])=true) (q5:(s.tok.text.toList==[105,102])=false) (q6:(s.tok.text.toList==[119,104,105,108,101])=false) (q7:(s.tok.text.toList==[103,111])=false) :
  Calls Tryz.prog 311 #[.pointer (some ⟨C.pb,0,none⟩),.pointer (some ⟨xb,0,none⟩),.int .i64 (d:Int)] w
   (Post C.B [398] [C.sb,C.tb,xb] w (zbk C.t bl s (ptrs.length-1) x) fun p v w'=>v=.tuple #[]∧WK C w xb dv ptrs p.1 p.2 w'):=by
 have S0:=zH (SEnv.start E X hB hrb)
 have HT:=zH T
 have e1:eqB s.tok.text zg7=_:=zao q1
 have e2:eqB s.tok.text zgb=_:=zao q2
 have e3:eqB s.tok.text zf6=_:=zao q3
 have e4:eqB s.tok.text zgv=_:=zao q4
 have e5:eqB s.tok.text wIf=_:=zao q5
 have e6:eqB s.tok.text zgk=_:=zao q6
 have e7:eqB s.tok.text wGo=_:=zao q7
 have mdd:=zbk.eq_1 C.t bl s (ptrs.length-1) x
 simp only[e1,e2,e3,e4,e5,e6,e7,Bool.or_true,Bool.true_or,Bool.or_false,Bool.or_self,Bool.false_eq_true,if_true,if_false]at mdd
 have MD0:=zH mdd
 obtain⟨M,hM⟩:∃ M,M=zbk C.t bl s (ptrs.length-1) x:=⟨_,rfl⟩
 rw[← hM]at MD0 ⊢
 obtain⟨hp0,hs0,hx0⟩:=S0.out.cells
 obtain⟨av0,bv0,ev0,hy0,_⟩:=S0.out.x.cells
 obtain⟨hne1,hne2⟩:=S0.out.ne
 clear E T X hM mdd e1 e2 e3 e4 e5 e6 e7
 go_enter Tryz.func311,Tryz.ntmps311
 go_wp2_with fail
 refine(zck S0.out.e).mono ?_
 rintro e w1 (⟨p1,v,hr,rfl,⟨rfl,hE⟩,hch⟩ | ⟨f,b,hr,rfl,hfb,hle,hch⟩)
 rotate_left
 ·exact⟨rfl,(S0.out.fault (by have md:=MD0.out;rw[hr]at md;exact md) hfb hle hch).wide (by simp) (by intro g hg;simp at hg ⊢;omega)⟩
 have R1:=zH hr
 have md:=MD0.out
 rw[hr,zae]at md
 have MD1:=zH md
 have S1:=zH (S0.out.scan hE hch)
 obtain⟨hp1,hs1,hx1⟩:=S1.out.cells
 obtain⟨av1,bv1,ev1,hy1,_⟩:=S1.out.x.cells
 obtain⟨hl1,hm1,hn1⟩:=S1.out.lts
 clear hr hE hch md
 go_wp2_with fail
 refine zag (fun W=>SEnv C xb w W p1 { x with op:=12 }) (S1.out.setOp 12) ?_
 intro w2 hS2
 have S2:=zH hS2
 obtain⟨hp2,hs2,hx2⟩:=hS2.cells
 obtain⟨av2,bv2,ev2,hy2,_⟩:=hS2.x.cells
 obtain⟨hl2,hm2,hn2⟩:=hS2.lts
 clear hS2
 cases h59:isM p1 59
 ·have mdd:=MD1.out
  rw[h59,if_neg (by simp)]at mdd
  have MD2:=zH mdd
  have H:=zH h59
  clear h59 mdd
  refine(zbc S2.out.e 59).mono ?_
  rw[H.out]
  rintro e w' ⟨rfl,rfl⟩
  go_wp2_with fail
  refine zag (fun W=>SEnv C xb w W p1 { x with op:=12,has:=true }) (S2.out.setHas true) ?_
  intro w3 hS3
  have S3:=zH hS3
  obtain⟨hp3,hs3,hx3⟩:=hS3.cells
  obtain⟨av3,bv3,ev3,hy3,_⟩:=hS3.x.cells
  obtain⟨hl3,hm3,hn3⟩:=hS3.lts
  clear hS3
  refine(zgt S3.out.e).mono ?_
  rintro e w4 (⟨p4,v,hr,rfl,⟨rfl,hE⟩,hch⟩ | ⟨f,b,hr,rfl,hfb,hle,hch⟩)
  rotate_left
  ·exact⟨rfl,(S3.out.fault (by have md:=MD2.out;rw[hr]at md;exact md) hfb hle hch).wide (by simp) (by intro g hg;simp at hg ⊢;omega)⟩
  have R4:=zH hr
  have md:=MD2.out
  rw[hr,zae]at md
  have MD3:=zH md
  have S4:=zH (S3.out.scan hE hch)
  obtain⟨hp4,hs4,hx4⟩:=S4.out.cells
  obtain⟨av4,bv4,ev4,hy4,_⟩:=S4.out.x.cells
  obtain⟨hl4,hm4,hn4⟩:=S4.out.lts
  clear hr hE hch md
  go_wp2_with fail
  refine zag (fun W=>SEnv C xb w W p4.2 { x with op:=12,has:=true,y:=p4.1 }) (S4.out.setY p4.1) ?_
  intro w5 hS5
  have S5:=zH hS5
  obtain⟨hp5,hs5,hx5⟩:=hS5.cells
  obtain⟨av5,bv5,ev5,hy5,_⟩:=hS5.x.cells
  obtain⟨hl5,hm5,hn5⟩:=hS5.lts
  clear hS5
  refine(zcu S5.out.e 59).mono ?_
  rintro e w6 (⟨p6,v,hr,rfl,⟨rfl,hE⟩,hch⟩ | ⟨f,b,hr,rfl,hfb,hle,hch⟩)
  rotate_left
  ·exact⟨rfl,(S5.out.fault (by have md:=MD3.out;rw[hr]at md;exact md) hfb hle hch).wide (by simp) (by intro g hg;simp at hg ⊢;omega)⟩
  have R6:=zH hr
  have md:=MD3.out
  rw[hr,zae]at md
  have MD4:=zH md
  have S6:=zH (S5.out.scan hE hch)
  obtain⟨hp6,hs6,hx6⟩:=S6.out.cells
  obtain⟨av6,bv6,ev6,hy6,_⟩:=S6.out.x.cells
  obtain⟨hl6,hm6,hn6⟩:=S6.out.lts
  clear hr hE hch md
  go_wp2_with fail
  go_end0
  exact WK.one S0.out S6.out HT.out MD4.out
 ·have mdd:=MD1.out
  rw[h59,if_pos rfl]at mdd
  have MD2:=zH mdd
  have H:=zH h59
  clear h59 mdd
  refine(zbc S2.out.e 59).mono ?_
  rw[H.out]
  rintro e w' ⟨rfl,rfl⟩
  go_wp2_with fail
  refine(zcu S2.out.e 59).mono ?_
  rintro e w6 (⟨p6,v,hr,rfl,⟨rfl,hE⟩,hch⟩ | ⟨f,b,hr,rfl,hfb,hle,hch⟩)
  rotate_left
  ·exact⟨rfl,(S2.out.fault (by have md:=MD2.out;rw[hr]at md;exact md) hfb hle hch).wide (by simp) (by intro g hg;simp at hg ⊢;omega)⟩
  have R6:=zH hr
  have md:=MD2.out
  rw[hr,zae]at md
  have MD4:=zH md
  have S6:=zH (S2.out.scan hE hch)
  obtain⟨hp6,hs6,hx6⟩:=S6.out.cells
  obtain⟨av6,bv6,ev6,hy6,_⟩:=S6.out.x.cells
  obtain⟨hl6,hm6,hn6⟩:=S6.out.lts
  clear hr hE hch md
  go_wp2_with fail
  go_end0
  exact WK.one S0.out S6.out HT.out MD4.out
theorem zwp (d:Nat)(bl:Sc→Nat→Except Flt ((List Nat×List Stm)×Sc))(C:PC)(w:World)(s:Sc)(x:Stm)(xb:Nat)(dv:Value)(ptrs:List Nat)(E:Env C w s)(T:TrAt C w dv ptrs)(X:zad w C.rb xb x)(hB:C.B≤xb)(hrb:C.rb≤w.heap.size)
  (q1:(s.tok.text.toList==[108,111,99,107])=false) (q2:(s.tok.text.toList==[117,110,108,111,99,107])=false) (q3:(s.tok.text.toList==[106,111,105,110])=false) (q4:(s.tok.text.toList==[114,101,116,117,114,110])=false) (q5:(s.tok.text.toList==[105,102])=false) (q6:(s.tok.text.toList==[119,104,105,108,101])=false) (q7:(s.tok.text.toList==[103,111])=true) :
  Calls Tryz.prog 311 #[.pointer (some ⟨C.pb,0,none⟩),.pointer (some ⟨xb,0,none⟩),.int .i64 (d:Int)] w
   (Post C.B [398] [C.sb,C.tb,xb] w (zbk C.t bl s (ptrs.length-1) x) fun p v w'=>v=.tuple #[]∧WK C w xb dv ptrs p.1 p.2 w'):=by
 have S0:=zH (SEnv.start E X hB hrb)
 have HT:=zH T
 have e1:eqB s.tok.text zg7=_:=zao q1
 have e2:eqB s.tok.text zgb=_:=zao q2
 have e3:eqB s.tok.text zf6=_:=zao q3
 have e4:eqB s.tok.text zgv=_:=zao q4
 have e5:eqB s.tok.text wIf=_:=zao q5
 have e6:eqB s.tok.text zgk=_:=zao q6
 have e7:eqB s.tok.text wGo=_:=zao q7
 have mdd:=zbk.eq_1 C.t bl s (ptrs.length-1) x
 simp only[e1,e2,e3,e4,e5,e6,e7,Bool.or_true,Bool.true_or,Bool.or_false,Bool.or_self,Bool.false_eq_true,if_true,if_false]at mdd
 have MD0:=zH mdd
 obtain⟨M,hM⟩:∃ M,M=zbk C.t bl s (ptrs.length-1) x:=⟨_,rfl⟩
 rw[← hM]at MD0 ⊢
 obtain⟨hp0,hs0,hx0⟩:=S0.out.cells
 obtain⟨av0,bv0,ev0,hy0,_⟩:=S0.out.x.cells
 obtain⟨hne1,hne2⟩:=S0.out.ne
 clear E T X hM mdd e1 e2 e3 e4 e5 e6 e7
 go_enter Tryz.func311,Tryz.ntmps311
 go_wp2_with fail
 refine(zck S0.out.e).mono ?_
 rintro e w1 (⟨p1,v,hr,rfl,⟨rfl,hE⟩,hch⟩ | ⟨f,b,hr,rfl,hfb,hle,hch⟩)
 rotate_left
 ·exact⟨rfl,(S0.out.fault (by have md:=MD0.out;rw[hr]at md;exact md) hfb hle hch).wide (by simp) (by intro g hg;simp at hg ⊢;omega)⟩
 have R1:=zH hr
 have md:=MD0.out
 rw[hr,zae]at md
 have MD1:=zH md
 have S1:=zH (S0.out.scan hE hch)
 obtain⟨hp1,hs1,hx1⟩:=S1.out.cells
 obtain⟨av1,bv1,ev1,hy1,_⟩:=S1.out.x.cells
 obtain⟨hl1,hm1,hn1⟩:=S1.out.lts
 clear hr hE hch md
 go_wp2_with fail
 refine zag (fun W=>SEnv C xb w W p1 { x with op:=7,mark:=s.tok.at_ }) ((S1.out.setOp 7).setMark s.tok.at_) ?_
 intro w2 hS2
 have S2:=zH hS2
 obtain⟨hp2,hs2,hx2⟩:=hS2.cells
 obtain⟨av2,bv2,ev2,hy2,_⟩:=hS2.x.cells
 obtain⟨hl2,hm2,hn2⟩:=hS2.lts
 clear hS2
 refine(zph C xb _ _ _ S2.out.e S2.out.x hB S2.out.rbw).mono ?_
 rintro e w3 (⟨p3,v,hr,rfl,⟨rfl,hE,hX⟩,hch⟩ | ⟨f,b,hr,rfl,hfb,hle,hch⟩)
 rotate_left
 ·exact⟨rfl,.inr ⟨f,b,by have md:=MD1.out;rw[hr]at md;exact md,rfl,hfb,Nat.le_trans S2.out.c.size hle,(S2.out.c.trans hch).mono (by simp) (by simp)⟩⟩
 have mdd:=MD1.out
 rw[hr,zae]at mdd
 have MD3:=zH mdd
 have hS3:SEnv C xb w w3 p3.2 p3.1:=⟨hE,hX,Nat.le_trans S2.out.rbw hch.size,S2.out.c.trans hch,hB⟩
 have S3:=zH hS3
 obtain⟨hp3,hs3,hx3⟩:=hS3.cells
 clear mdd hr hE hX hch hS3
 go_wp2_with fail
 refine(zcu S3.out.e 59).mono ?_
 rintro e w4 (⟨p4,v,hr,rfl,⟨rfl,hE⟩,hch⟩ | ⟨f,b,hr,rfl,hfb,hle,hch⟩)
 rotate_left
 ·exact⟨rfl,(S3.out.fault (by have md:=MD3.out;rw[hr]at md;exact md) hfb hle hch).wide (by simp) (by intro g hg;simp at hg ⊢;omega)⟩
 have R4:=zH hr
 have md:=MD3.out
 rw[hr,zae]at md
 have MD4:=zH md
 have S4:=zH (S3.out.scan hE hch)
 obtain⟨hp4,hs4,hx4⟩:=S4.out.cells
 obtain⟨av4,bv4,ev4,hy4,_⟩:=S4.out.x.cells
 obtain⟨hl4,hm4,hn4⟩:=S4.out.lts
 clear hr hE hch md
 go_wp2_with fail
 go_end0
 exact WK.one S0.out S4.out HT.out MD4.out
end
section
open Go.RowKit
attribute [local go_sem] zaq
def Off (w:World)(k:Option Nat)(xb:Nat):Prop:=∀ v,(w.cell? ⟨xb,23,none⟩=some v∨w.cell? ⟨xb,24,none⟩=some v)→v.ownBlock=none∨v.ownBlock≠k
theorem stm_cell {w:World}{B xb:Nat}{x:Stm}{i:Nat}{v:Value}(h:zad w B xb x)(hi:i=23∨i=24)(hv:w.cell? ⟨xb,i,none⟩=some v):∃ l,zbe w B v l:=by
 obtain⟨av,bv,ev,h0,h1,h2,h3⟩:=h
 have hc:=h0.cell i
 rw[hv]at hc
 rcases hi with rfl | rfl
 ·have:v=bv:=by simpa [zbg] using hc
  subst this;exact⟨_,h2⟩
 ·have:v=ev:=by simpa [zbg] using hc
  subst this;exact⟨_,h3⟩
theorem zlp {w:World}{B xb:Nat}{x:Stm}{i:Nat}{v:Value}(h:zad w B xb x)(hi:i=23∨i=24)(hv:w.cell? ⟨xb,i,none⟩=some v):∀ k,v.ownBlock=some k→B≤k∧k<w.heap.size:=by
 obtain⟨l,hl⟩:=stm_cell h hi hv
 exact fun k hk=>hl.lt k hk
theorem off_new {w:World}{B xb:Nat}{x:Stm}{k:Option Nat}(h:zad w B xb x)(hk:∀ j,k=some j→j<B):Off w k xb:=by
 intro v hv
 rcases hv with hv | hv
 all_goals
  cases hb:v.ownBlock with
  | none=>exact .inl rfl
  | some j =>
   right
   intro e
   have h1:=hk j e.symm
   first
   | (have h2:=zlp h (.inl rfl) hv j hb;omega)
   | (have h2:=zlp h (.inr rfl) hv j hb;omega)
theorem zw8 {w:World}{B xb:Nat}{x:Stm}{j:Nat}(h:zad w B xb x)(hj:w.heap.size≤j):Off w (some j) xb:=by
 intro v hv
 rcases hv with hv | hv
 all_goals
  cases hb:v.ownBlock with
  | none=>exact .inl rfl
  | some i =>
   right
   intro e
   have e':i=j:=by injection e
   first
   | (have h2:=zlp h (.inl rfl) hv i hb;omega)
   | (have h2:=zlp h (.inr rfl) hv i hb;omega)
theorem Off.same {w w1:World}{k:Option Nat}{B xb:Nat}{x:Stm}(h:Off w k xb)(hs:zad w B xb x)(he:w1.heap[xb]? = w.heap[xb]?):Off w1 k xb:=by
 obtain⟨cs,hcs⟩:=hs.blk
 have h1:Blk w1 xb _ cs:=he.trans hcs
 intro v hv
 refine h v ?_
 rw[h1.cell,h1.cell]at hv
 rw[hcs.cell,hcs.cell]
 exact hv
theorem zad.ints {w w1:World}{B B' xb:Nat}{x:Stm}{v:Value}{n:Nat}{ys:List Value}(h:zad w B xb x)(hown:w.ownsRow B' 3 1 v n ys)(hg:w.grownBy w1 v.ownBlock)(ho:Off w v.ownBlock xb):zad w1 B xb x:=by
 obtain⟨cs,hcs⟩:=h.blk
 obtain⟨av,bv,ev,h0,h1,h2,h3⟩:=h
 have hN:∀ {e:TypeId} {size m:Nat} {u:Value} {zs:List Value},e≠3→w.ownsRow B e size u m zs→w1.ownsRow B e size u m zs:=by
  intro e size m u zs hne hr
  refine hr.kept hg ?_
  rcases hr.2 with⟨rfl,_⟩ | ⟨g',cap',cur,rfl,_,hh,_⟩
  ·exact .inl rfl
  ·right
   intro he
   exact zc3 hown (g:=g') (cs:=cur) hh (fun e'=>hne e'.symm) g' (by rw[← he];rfl) rfl
 have hc23:=h0.cell 23
 have hc24:=h0.cell 24
 exact⟨av,bv,ev,h0.append hown hg (by decide),hN (by decide) h1,h2.kept hg (ho bv (.inl (by rw[hc23];simp[zbg]))),h3.kept hg (ho ev (.inr (by rw[hc24];simp[zbg])))⟩
def zjy (w:World)(k:Option Nat)(l:List Nat):Prop:=∀ b ∈ l,Off w k b
def zn4 (C:PC)(w0:World)(dv:Value)(ptrs:List Nat)(M:Except Flt ((List Nat×List Stm)×Sc))(st:Sc→Nat→Except Flt (List Stm×Sc))(n:Nat)(lv:Value)(wr:World):Prop :=
 ∃ (s:Sc) (ids news:List Nat) (xs:List Stm),zbe wr w0.heap.size lv ids∧Env C wr s∧TrAt C wr dv (ptrs++news)∧zav wr w0.heap.size news xs∧zjy wr lv.ownBlock news∧Chg C.B [398] [C.sb,C.tb] w0 wr ∧
  ptrs.length+news.length≤s.at_+1∧(s.kind≠0→ptrs.length+news.length≤s.at_)∧ids.length≤news.length∧C.t.size-s.at_<n∧M=zab (zdy st n s (ptrs.length+news.length)) fun q=>.ok ((ids++q.1.1,xs++q.1.2),q.2)
theorem TrAt.ints {C:PC}{w w1:World}{dv v:Value}{ptrs:List Nat}{B n:Nat}{ys:List Value}(h:TrAt C w dv ptrs)(hown:w.ownsRow B 3 1 v n ys)(hg:w.grownBy w1 v.ownBlock):TrAt C w1 dv ptrs:=by
 obtain⟨sv,hb,hr⟩:=h
 refine⟨sv,hb.append hown hg (by decide),hr.kept hg ?_⟩
 rcases hr.2 with⟨rfl,_⟩ | ⟨g',cap',cur,rfl,_,hh,_⟩
 ·exact .inl rfl
 ·right
  intro he
  exact zc3 hown (g:=g') (cs:=cur) hh (by decide) g' (by rw[← he];rfl) rfl
theorem TrAt.alloc {C:PC}{w:World}{dv:Value}{ptrs:List Nat}(h:TrAt C w dv ptrs)(o:Obj):TrAt C (w.alloc o) dv ptrs:=by
 obtain⟨sv,hb,hr⟩:=h
 exact⟨sv,hb.alloc o,hr.alloc o⟩
theorem zv2 {t:ByteArray}{lvl d:Nat}{s:Sc}{k:Nat}{p:List Stm×Sc}(h:zbh t lvl d s k=.ok p):s.kind≠0:=by
 cases lvl with
 | zero=>simp[zbh]at h
 | succ lvl =>
  rw[zbh]at h
  split at h
  ·rename_i hk;omega
  ·obtain⟨q,h1,_⟩:=zac h
   unfold zeb at h1
   obtain⟨r,h2,_⟩:=zac h1
   have:=(zf3 h2).1
   omega
theorem blk_step {C:PC}{w0 wr w1 w2:World}{dv lv:Value}{ptrs ids news:List Nat}{xs:List Stm}{M:Except Flt ((List Nat×List Stm)×Sc)}{st:Sc→Nat→Except Flt (List Stm×Sc)}{m g cap:Nat}{s:Sc}{p:List Stm×Sc}{o:Obj}
  (hB:C.B≤w0.heap.size) (HR:zbe wr w0.heap.size lv ids) (HE:Env C wr s) (HT:TrAt C wr dv (ptrs++news)) (HS:zav wr w0.heap.size news xs) (HO:zjy wr lv.ownBlock news) (HC:Chg C.B [398] [C.sb,C.tb] w0 wr)
  (h0:s.kind≠0→ptrs.length+news.length≤s.at_) (hids:ids.length≤news.length) (hn:C.t.size-s.at_<m+1) (hM:M=zab (zdy st (m+1) s (ptrs.length+news.length)) fun q=>.ok ((ids++q.1.1,xs++q.1.2),q.2))
  (his:isM s 125=false) (hr:st s (ptrs.length+news.length)=.ok p) (hk0:s.kind≠0) (hle:zfj C.t s p.2 p.1.length∧0<p.1.length)
  (hK:StK C wr dv (ptrs++news) p.1 p.2 w1) (hch:Chg C.B [398] [C.sb,C.tb] wr w1)
  (hrow:w2.ownsRow w0.heap.size 3 1 (.slice (some ⟨g,0,none⟩) (ids.length+1) cap) (ids.length+1) ((ids.map fun n:Nat=>Value.int .i64 (n:Int))++[.int .i64 (ptrs.length+news.length:Nat)]))
  (hg:(w1.alloc o).grownBy w2 lv.ownBlock) (hat:lv.ownBlock=some g∨g=(w1.alloc o).heap.size) :
  zn4 C w0 dv ptrs M st m (.slice (some ⟨g,0,none⟩) (ids.length+1) cap) w2:=by
 obtain⟨news',hE,hT,hS⟩:=hK
 have hlen:=hS.length
 obtain⟨tv,htb,_⟩:=HT
 have hnx:∀ g ∈ [C.sb,C.tb],∃ t cs,Blk wr g t cs∧t≠439∧t≠220∧t≠3:=by
  intro g hg
  rcases(by simpa using hg)with rfl | rfl
  ·exact⟨_,_,HE.sc,by decide,by decide,by decide⟩
  ·exact⟨_,_,htb,by decide,by decide,by decide⟩
 have hRow1:zbe w1 w0.heap.size lv ids:=zcs HR hch (by decide) (by
  intro k hk hm
  obtain⟨t,cs,h4,_,_,h5⟩:=hnx _ hm
  exact zc3 HR h4 (fun e=>h5 e.symm) k hk rfl)
 have hRowW:(w1.alloc o).ownsRow w0.heap.size 3 1 lv ids.length (ids.map fun n:Nat=>Value.int .i64 (n:Int)):=hRow1.alloc o
 have hOldS:zav w1 w0.heap.size news xs:=HS.chg hch (by decide) (by decide) (by decide) hnx
 have hNewS:zav w1 w0.heap.size news' p.1:=hS.map HC.size fun b y _ _ h=>h.low HC.size
 have hOld:zjy w1 lv.ownBlock news:=by
  intro b hb
  obtain⟨_,x,hx⟩:=HS.mem b hb
  refine(HO b hb).same hx ?_
  obtain⟨cs,hcs⟩:=hx.blk
  rw[hcs]
  refine hcs.chg hch (by decide) ?_
  intro hm
  obtain⟨t,cs',h4,h5,_⟩:=hnx _ hm
  exact h5 (Blk.inj h4 hcs).1
 have hNew:zjy w1 lv.ownBlock news':=by
  intro b hb
  obtain⟨_,x,hx⟩:=hS.mem b hb
  exact off_new hx fun j hj=>(HR.lt j hj).2
 have hAllS:zav (w1.alloc o) w0.heap.size (news++news') (xs++p.1):=(hOldS.append hNewS).map (Nat.le_refl _) fun _ _ _ _ h=>h.alloc o
 have hAllO:zjy (w1.alloc o) lv.ownBlock (news++news'):=by
  intro b hb
  obtain⟨_,x,hx⟩:=(hOldS.append hNewS).mem b hb
  have hb1:Off w1 lv.ownBlock b:=by
   rcases List.mem_append.1 hb with hb | hb
   ·exact hOld b hb
   ·exact hNew b hb
  refine hb1.same hx ?_
  obtain⟨cs,hcs⟩:=hx.blk
  rw[hcs]
  exact hcs.alloc o
 have hsame:∀ b ∈ news++news',w2.heap[b]? = (w1.alloc o).heap[b]? := by
  intro b hb
  obtain⟨_,x,hx⟩:=hAllS.mem b hb
  obtain⟨cs,hcs⟩:=hx.blk
  rw[hcs]
  exact hcs.append hRowW hg (by decide)
 refine⟨p.2,ids++[ptrs.length+news.length],news++news',xs++p.1,?_,Env.append (hE.alloc o) hRowW hg (by decide) (by decide),?_,?_,?_,?_,?_,?_,?_,?_,?_⟩
 ·have:(ids++[ptrs.length+news.length]).length=ids.length+1:=by simp
  unfold zbe
  rw[this,List.map_append]
  exact hrow
 ·rw[← List.append_assoc]
  exact(hT.alloc o).ints hRowW hg
 ·exact hAllS.map (Nat.le_refl _) fun b y hb _ h=>h.ints hRowW hg (hAllO b hb)
 ·intro b hb
  obtain⟨_,x,hx⟩:=hAllS.mem b hb
  rcases hat with hat | rfl
  ·have:=(hAllO b hb).same hx (hsame b hb)
   rw[hat]at this
   exact this
  ·exact(zw8 hx (Nat.le_refl _)).same hx (hsame b hb)
 ·exact Chg.append ((HC.trans hch).alloc o) hRowW hg hB (.inr (Nat.le_refl _))
 ·have:=hle.1.2;have:=h0 hk0;simp;omega
 ·intro _;have:=hle.1.2;have:=h0 hk0;simp;omega
 ·have:=hle.2;simp;omega
 ·have:=hle.1.2;have:=hle.1.1;have:=hle.2;omega
 ·rw[hM,zdy,if_neg (by rw[his];simp),hr,zae,zig]
  have:ptrs.length+news.length+p.1.length=ptrs.length+(news++news').length:=by simp;omega
  rw[this]
  congr 1
  funext q
  rw[zae];simp
end
section
open Go.RowKit
attribute [local go_sem] zaq
theorem zwu (t:ByteArray)(d:Nat)(hd:d≤6)(s:Sc)(k:Nat)(hk:s.kind=4):zbh t (7-d) d s k=zbk t (zdz t (zbh t (6-d) (d+1)) (d+1)) s k { at_:=s.tok.at_ }:=by
 obtain⟨m,hm⟩:∃ m,7-d=m+1:=⟨6-d,by omega⟩
 have:m=6-d:=by omega
 subst this
 rw[hm,zbh,if_pos hk]
theorem zv6 (t:ByteArray)(d:Nat)(hd:d≤6)(s:Sc)(k:Nat)(hk:¬ s.kind=4):zbh t (7-d) d s k=zab (zeb t s { at_:=s.tok.at_ }) fun p=>.ok ([p.1],p.2):=by
 obtain⟨m,hm⟩:∃ m,7-d=m+1:=⟨6-d,by omega⟩
 have:m=6-d:=by omega
 subst this
 rw[hm,zbh,if_neg hk]
theorem zoe {C:PC}{w wc w2:World}{s:Sc}{dv:Value}{ptrs:List Nat}(hB:Began C w wc s dv ptrs)(hch:Chg C.B [398] [C.sb,C.tb,w.heap.size] wc w2):Chg C.B [398] [C.sb,C.tb] w w2 :=
 ⟨hch.os.trans hB.c.os,hch.tape.trans hB.c.tape,hch.output.trans hB.c.output,Nat.le_trans hB.c.size hch.size,fun k o hk hp=>by
  have h1:=hB.c.block k o hk hp
  refine hch.block k o h1 (hp.imp id fun⟨a,b⟩=>⟨a,?_⟩)
  have:=lt_of_block hk
  have hne:k≠w.heap.size:=by omega
  simpa [hne] using b⟩
theorem zpj {C:PC}{w wc w2:World}{s s2:Sc}{dv:Value}{ptrs news:List Nat}{p:List Stm}{x:Stm}{l:List Stm}(hB:Began C w wc s dv ptrs)(hch:Chg C.B [398] [C.sb,C.tb,w.heap.size] wc w2)
  (hp:p=x::l) (hX:zad w2 w.heap.size w.heap.size x) (hE:Env (C.at_ w.heap.size) w2 s2) (hT:TrAt (C.at_ w.heap.size) w2 dv ((ptrs++[w.heap.size])++news)) (hS:zav w2 wc.heap.size news l) :
  StK C w dv ptrs p s2 w2∧Chg C.B [398] [C.sb,C.tb] w w2:=by
 subst hp
 refine⟨⟨w.heap.size::news,hE.un,?_,Nat.le_refl _,hX,?_⟩,zoe hB hch⟩
 ·have:TrAt C w2 dv ((ptrs++[w.heap.size])++news):=hT
  simpa using this
 ·exact hS.map hB.c.size fun b y _ _ h=>h.low hB.c.size
theorem stmt_any (d:Nat)(hd:d≤6)(HW:zpa d):zp2 d:=by
 intro C w s dv ptrs E T hat hat0
 have hpt:ptrs.length≤701:=Nat.le_trans hat (Nat.succ_le_succ (Nat.le_trans E.at_ E.tsz))
 obtain⟨sv,hT,hR⟩:=T
 obtain⟨sa,sc,hsv⟩:=zat hR
 subst hsv
 have hp:=E.p.cell
 have hs:=Blk.cell E.sc
 have ht:=hT.cell
 have hft:=hT.frozen
 have hpl:=E.p.lt
 have hsl:=Blk.lt E.sc
 have htl:=hT.lt
 have HE:=zH E
 have HT:=zH hT
 have HR:=zH hR
 clear E hT hR
 go_enter Tryz.func293,Tryz.ntmps293
 go_upto_region 3 with fail
 go_cut [] (fun wx=>Began C w wx s dv ptrs)
 case first =>
  refine zbi (fun w1=>Env C w1 s∧Blk w1 C.tb 218 #[dv,.slice sa ptrs.length sc]∧w1.ownsRow C.B 398 1 (.slice sa ptrs.length sc) ptrs.length (ptrs.map ptrV) ∧
   zad w1 w.heap.size w.heap.size { at_:=s.tok.at_ }∧Chg C.B [398] [C.sb,C.tb] w w1) ⟨HE.out.alloc _,HT.out.alloc _,HR.out.alloc _,⟨_,_,_,Blk.new _ _ _,World.ownsRow_nil _ _ _ _,World.ownsRow_nil _ _ _ _,World.ownsRow_nil _ _ _ _⟩,(Chg.refl _ _ _ _).alloc _⟩ ?_
  rintro w1 ⟨hE1,hT1,hR1,hX1,hC1⟩
  have hpp:=hE1.p.cell
  have htt:=hT1.cell
  have hftt:=hT1.frozen
  have hpl1:=hE1.p.lt
  have htl1:=hT1.lt
  have HE1:=zH hE1
  have HT1:=zH hT1
  have HR1:=zH hR1
  have HX1:=zH hX1
  have HC1:=zH hC1
  have hBw:=zH (Nat.le_trans HE.out.bs (Nat.le_of_lt hsl))
  clear hE1 hT1 hR1 hX1 hC1 hp hs ht hft
  go_region_law (refine zc5 tyPtr rfl _ _ rfl C.B _ ptrs.length (ptrs.map ptrV) w1.heap.size _ _ ((za2 HR1.out).alloc _) (Blk.newAt (by simp)) rfl rfl rfl (by simp[Value.oneCell']) (by omega) (by simp;have:=hBw.out;have:=HC1.out.size;omega) ?_;intro g cap w2 hrow2 hg2 hat2;(have hT2:=(Blk.append ((HT1.out.drew).alloc _) ((za2 HR1.out).alloc _) hg2 (by decide)));(have hE2:=Env.append ((HE1.out.drew).alloc _) ((za2 HR1.out).alloc _) hg2 (by decide) (by decide));(have hpp2:=hE2.p.cell);(have htt2:=hT2.cell);(have hftt2:=hT2.frozen);(have HN:=zH (zux HE1.out HT1.out HR1.out HX1.out HC1.out hBw.out hrow2 hg2));clear hT2 hE2 hrow2 hg2 hat2)
  all_goals go_wp2_with fail
  all_goals go_meet
  all_goals exact HN.out
 case rest =>
  have hE1:=hcut.e.rb w.heap.size
  have hpp:=hcut.e.p.cell
  have hss:=Blk.cell hcut.e.sc
  have hpl1:=hcut.e.p.lt
  have hsl1:=Blk.lt hcut.e.sc
  have HC:=zH hcut
  have HE1:=zH hE1
  have hBw:=zH (Nat.le_trans HE.out.bs (Nat.le_of_lt hsl))
  have hrb:=zH (Nat.le_of_lt (zad.lt hcut.x))
  have hlen:(ptrs++[w.heap.size]).length=ptrs.length+1:=by simp
  clear hcut hE1 hp hs ht hft
  by_cases hk:s.kind=4
  ·have k1:((s.kind:Int)==4)=true:=by rw[hk];rfl
   have k2:((s.kind:Int) != 4)=false:=by rw[hk];rfl
   have MD:=zH (zwu C.t d hd s ptrs.length hk)
   have hat4:ptrs.length≤s.at_:=hat0 (by omega)
   clear hk
   go_wp2_with fail
   refine(HW (C.at_ w.heap.size) wc s _ w.heap.size dv _ HE1.out HC.out.tr HC.out.x rfl hBw.out hrb.out (by rw[hlen];omega) (by rw[hlen];omega)).mono ?_
   rw[hlen]
   rintro e w2 (⟨p,v,hr,rfl,⟨rfl,x,l,hp,hX,news,hE2,hT2,hS2⟩,hch⟩ | ⟨f,b,hr,rfl,hfb,hle,hch⟩)
   ·have HX:=zH (zpj (C:=C) HC.out hch hp hX hE2 hT2 hS2)
    have MD2:=zH (MD.out.trans hr)
    clear hr hp hX hE2 hT2 hS2 hch
    go_wp2_with fail
    refine bodyPost_end (v:=.int .i64 ptrs.length) (by simp[results,Tryz.results293,go_sem]) rfl ?_
    exact .inl ⟨_,_,MD2.out,rfl,⟨rfl,HX.out.1⟩,HX.out.2⟩
   ·exact⟨rfl,.inr ⟨f,b,MD.out.trans hr,rfl,hfb,Nat.le_trans HC.out.c.size hle,zoe HC.out hch⟩⟩
  ·have k1:((s.kind:Int)==4)=false:=zai (by omega)
   have k2:((s.kind:Int) != 4)=true:=bne_iff_ne.2 (by omega)
   have MD:=zH (zv6 C.t d hd s ptrs.length hk)
   clear hk
   go_wp2_with fail
   refine(zt5 (C.at_ w.heap.size) w.heap.size wc s _ HE1.out HC.out.x hBw.out hrb.out).mono ?_
   rintro e w2 (⟨p,v,hr,rfl,⟨rfl,hE2,hX2⟩,hch⟩ | ⟨f,b,hr,rfl,hfb,hle,hch⟩)
   ·have hch3:Chg C.B [398] [C.sb,C.tb,w.heap.size] wc w2:=hch.mono (by simp) (by intro g hg;rcases(by simpa using hg)with rfl | rfl <;> simp[PC.at_])
    have hT2:TrAt (C.at_ w.heap.size) w2 dv ((ptrs++[w.heap.size])++[]):=by
     rw[List.append_nil]
     refine TrAt.chg (C:=C.at_ w.heap.size) HC.out.tr hch (by simp) (by simp) ?_
     obtain⟨cs,hcs⟩:=HC.out.x.blk
     intro g hg
     rcases(by simpa using hg)with rfl | rfl
     ·exact⟨_,_,HE1.out.sc,by decide,by decide⟩
     ·exact⟨_,_,hcs,by decide,by decide⟩
    have HX:=zH (zpj (C:=C) (l:=[]) (news:=[]) HC.out hch3 (p:=[p.1]) rfl hX2 hE2 hT2 trivial)
    have MD2:=zH (MD.out.trans (show zab (zeb C.t s _) _=_ by rw[show zeb C.t s _=_ from hr,zae]))
    clear hr hE2 hX2 hch hch3 hT2
    go_wp2_with fail
    refine bodyPost_end (v:=.int .i64 ptrs.length) (by simp[results,Tryz.results293,go_sem]) rfl ?_
    exact .inl ⟨([p.1],p.2),_,MD2.out,rfl,⟨rfl,HX.out.1⟩,HX.out.2⟩
   ·refine⟨rfl,.inr ⟨f,b,MD.out.trans (by rw[show zeb C.t s _=_ from hr];rfl),rfl,hfb,Nat.le_trans HC.out.c.size hle,zoe HC.out (hch.mono (by simp) (by intro g hg;rcases(by simpa using hg)with rfl | rfl <;> simp[PC.at_]))⟩⟩
end
section
open Go.RowKit
attribute [local go_sem] zaq
theorem zyd {t:ByteArray}{lvl d:Nat}{s:Sc}{k:Nat}{p:List Stm×Sc}(h:zbh t lvl d s k=.ok p)(hs:s.at_≤t.size):zfj t s p.2 p.1.length∧0<p.1.length:=zk2 lvl d s k p h hs
theorem zps (d:Nat)(HS:d≤6→zp2 d):zhd d:=by
 intro C w s dv ptrs E T hat hat0
 have hp:=E.p.cell
 have hs:=Blk.cell E.sc
 have hpl:=E.p.lt
 have hsl:=Blk.lt E.sc
 have HE:=zH E
 have HT:=zH T
 have MD0:=zH (show zdz C.t (zbh C.t (7-d) d) d s ptrs.length=if isM s 123∧6<d then .error ⟨6,s.tok.at_⟩else
  zab (za9 C.t s 123) fun s1=>zab (zdy (zbh C.t (7-d) d) (C.t.size+1) s1 ptrs.length) fun p=>zab (za9 C.t p.2 125) fun s2=>.ok (p.1,s2)from rfl)
 generalize zdz C.t (zbh C.t (7-d) d) d s ptrs.length=M at MD0 ⊢
 clear E T
 go_enter Tryz.func247,Tryz.ntmps247
 cases h123:isM s 123
 ·have mdh:=MD0.out
  rw[h123,if_neg (by simp)]at mdh
  have MD:=zH mdh
  clear mdh
  have H:=zH h123
  clear h123
  go_wp2_with fail
  refine(zbc HE.out 123).mono ?_
  rw[H.out]
  rintro e w' ⟨rfl,rfl⟩
  go_wp2_with fail
  refine(zcu HE.out 123).mono ?_
  rintro e w1 (⟨s1,v,hr,rfl,⟨rfl,hE1⟩,hch1⟩ | ⟨f,b,hr,rfl,hfb,hle,hch1⟩)
  ·have:=(zhq hr).1
   rw[H.out]at this
   cases this
  ·exact⟨rfl,.inr ⟨_,_,MD.out.trans (by rw[hr];rfl),rfl,hfb,hle,hch1.mono (by simp) (by simp)⟩⟩
 ·by_cases hd:6<d
  ·have mdh:=MD0.out
   rw[h123,if_pos (by simpa using hd)]at mdh
   have MD:=zH mdh
   clear mdh
   have H:=zH h123
   have d1:decide ((6:Int)<(d:Int))=true:=by simpa using (by omega:(6:Int)<(d:Int))
   have d2:decide ((d:Int) > 6)=true:=d1
   clear h123
   go_wp2_with fail
   refine(zbc HE.out 123).mono ?_
   rw[H.out]
   rintro e w' ⟨rfl,rfl⟩
   go_wp2_with fail
   refine(zfb _ _ _).mono ?_
   rintro e w4 ⟨rfl,rfl⟩
   exact⟨rfl,.inr ⟨_,_,MD.out,rfl,za1.new (by simp),Nat.le_refl _,(Chg.refl _ _ _ _).alloc _⟩⟩
  ·have mdh:=MD0.out
   rw[h123,if_neg (by simpa using hd)]at mdh
   have MD:=zH mdh
   clear mdh
   have H:=zH h123
   have d1:decide ((6:Int)<(d:Int))=false:=by simpa using (by omega:(d:Int)≤6)
   have d2:decide ((d:Int) > 6)=false:=d1
   have HST:=HS (by omega)
   clear h123
   go_wp2_with fail
   refine(zbc HE.out 123).mono ?_
   rw[H.out]
   rintro e w' ⟨rfl,rfl⟩
   go_wp2_with fail
   refine(zcu HE.out 123).mono ?_
   rintro e w1 (⟨s1,v,hr,rfl,⟨rfl,hE1⟩,hch1⟩ | ⟨f,b,hr,rfl,hfb,hle,hch1⟩)
   rotate_left
   ·exact⟨rfl,.inr ⟨_,_,MD.out.trans (by rw[hr];rfl),rfl,hfb,hle,hch1.mono (by simp) (by simp)⟩⟩
   have MD1:=zH (MD.out.trans (by rw[hr,zae]))
   obtain⟨M1,hM1⟩:∃ M1,M1=zdy (zbh C.t (7-d) d) (C.t.size+1) s1 ptrs.length:=⟨_,rfl⟩
   rw[← hM1]at MD1
   have START:=zH (show zn4 C w dv ptrs M1 (zbh C.t (7-d) d) (C.t.size+1) (.slice none 0 0) w1 by
    have hk:=zkr (zhq hr).1
    have hl:=zd0 hr HE.out.at_
    have:=hat0 hk
    refine⟨s1,[],[],[],World.ownsRow_nil _ _ _ _,hE1,?_,trivial,(fun b hb=>by cases hb),hch1.mono (by simp) (by simp),by simp;omega,fun _=>by simp;omega,by simp,by omega,?_⟩
    ·rw[List.append_nil]
     refine HT.out.chg hch1 (by simp) (by simp) ?_
     intro g hg
     rw[List.mem_singleton.1 hg]
     exact⟨_,_,HE.out.sc,by decide,by decide⟩
    ·rw[hM1]
     simp only[List.length_nil,Nat.add_zero,List.nil_append]
     cases zdy (zbh C.t (7-d) d) (C.t.size+1) s1 ptrs.length <;> rfl)
   have hBw:=zH (Nat.le_trans HE.out.bs (Nat.le_of_lt hsl))
   clear hr hE1 hch1 hM1 hp hs
   go_wp2_with fail
   go_loopg [5] (C.t.size+1) (fun n v5 wr=>zn4 C w dv ptrs M1 (zbh C.t (7-d) d) n v5 wr)
   case atStart=>exact START.out
   case round =>
    obtain⟨s2,ids,news,xs,hRow,hE,hTr,hSt,hOff,hch,hb1,hb2,hids,hn,hM⟩:=hrel
    obtain⟨ra,rc,hv⟩:=zat hRow
    subst hv
    have HR:=zH hRow
    have HE1:=zH hE
    have HT1:=zH hTr
    have HS1:=zH hSt
    have HO1:=zH hOff
    have HC1:=zH hch
    have hpr:=hE.p.cell
    have hcr:=Blk.cell hE.sc
    have hpl1:=hE.p.lt
    have hsl1:=Blk.lt hE.sc
    have hidb:ids.length≤701:=Nat.le_trans hids (Nat.le_trans (Nat.le_add_left _ _) (Nat.le_trans hb1 (Nat.succ_le_succ (Nat.le_trans hE.at_ hE.tsz))))
    have HM:=zH hM
    have N:=zH hn
    clear hRow hE hTr hSt hOff hch hM hn
    cases his:isM s2 125
    ·have HIS:=zH his
     clear his
     go_wp2_with fail
     refine(zbc HE1.out 125).mono ?_
     rw[HIS.out]
     rintro e w' ⟨rfl,rfl⟩
     go_wp2_with fail
     refine(HST C wr s2 dv (ptrs++news) HE1.out HT1.out (by simpa using hb1) (by simpa using hb2)).mono ?_
     rw[show(ptrs++news).length=ptrs.length+news.length by simp]
     rintro e w3 (⟨p,v,hr,rfl,⟨rfl,hK⟩,hch3⟩ | ⟨f,b,hr,rfl,hfb,hle,hch3⟩)
     rotate_left
     ·exact⟨rfl,.inr ⟨f,b,MD1.out.trans (by
       obtain⟨m,hm⟩:∃ m,gk=m+1:=⟨gk-1,by have:=N.out;omega⟩
       rw[HM.out,hm,zdy,if_neg (by rw[HIS.out];simp),hr];rfl),rfl,hfb,Nat.le_trans HC1.out.size hle,HC1.out.trans hch3⟩⟩
     obtain⟨m,hm⟩:∃ m,gk=m+1:=⟨gk-1,by have:=N.out;omega⟩
     have KK:=zH hK
     have RR:=zH hr
     have CC:=zH hch3
     obtain⟨tv,htb,_⟩:=HT1.out
     have HR3:=zH (show zbe w3 w.heap.size (.slice ra ids.length rc) ids from zcs HR.out hch3 (by decide) (by
      intro k hk hm
      rcases(by simpa using hm)with rfl | rfl
      ·exact zc3 HR.out HE1.out.sc (by decide) _ hk rfl
      ·exact zc3 HR.out htb (by decide) _ hk rfl))
     have hsz3:=zH (Nat.le_trans HC1.out.size hch3.size)
     clear hK hr hch3 htb hpr hcr
     go_wp2_with (at_builtin;refine zg8 ?_)
     refine zg2 ?_
     refine zhc tyInt rfl _ _ rfl w.heap.size _ ids.length (ids.map fun n:Nat=>Value.int .i64 (n:Int)) w3.heap.size _ _ (HR3.out.alloc _) (Blk.newAt rfl) rfl (by rfl) rfl (by simp[Value.oneCell']) (by omega) (by have:=hsz3.out;simp;omega) ?_
     intro g cap w4 hrow4 hg4 hat4
     have HN:=zH (blk_step (M:=M1) (m:=m) hBw.out HR.out HE1.out HT1.out HS1.out HO1.out HC1.out hb2 hids (by have:=N.out;omega) (by rw[← hm];exact HM.out) HIS.out RR.out (zv2 RR.out) (zyd RR.out HE1.out.at_) KK.out CC.out hrow4 hg4 hat4)
     have hE4:=HN.out
     obtain⟨_,_,_,_,_,hE4,_⟩:=hE4
     have hpq:=hE4.p.cell
     clear hrow4 hg4 hat4 hE4
     go_wp2_with fail
     go_roundg m
     case measure=>omega
     case rel=>exact HN.out
    ·have HIS:=zH his
     clear his
     go_wp2_with fail
     refine(zbc HE1.out 125).mono ?_
     rw[HIS.out]
     rintro e w' ⟨rfl,rfl⟩
     go_wp2_with fail
     refine(zcu HE1.out 125).mono ?_
     have MD2:=zH (show M1=.ok ((ids,xs),s2) by
      obtain⟨m,hm⟩:∃ m,gk=m+1:=⟨gk-1,by have:=N.out;omega⟩
      rw[HM.out,hm,zdy,if_pos HIS.out]
      simp[zab])
     rintro e w3 (⟨s3,v,hr,rfl,⟨rfl,hE3⟩,hch3⟩ | ⟨f,b,hr,rfl,hfb,hle,hch3⟩)
     ·have hS1:=HS1.out.chg hch3 (by simp) (by simp) (by simp) (by
       intro g hg
       rw[List.mem_singleton.1 hg]
       exact⟨_,_,HE1.out.sc,by decide,by decide,by decide⟩)
      have hT1:=HT1.out.chg hch3 (by simp) (by simp) (by
       intro g hg
       rw[List.mem_singleton.1 hg]
       exact⟨_,_,HE1.out.sc,by decide,by decide⟩)
      have hR1:zbe w3 w.heap.size (.slice ra ids.length rc) ids:=zcs HR.out hch3 (by simp) (by
       intro k hk hm
       rw[List.mem_singleton.1 hm]at hk
       exact zc3 HR.out HE1.out.sc (by decide) _ hk rfl)
      have FIN:=zH (show Post C.B [398] [C.sb,C.tb] w M (fun p v w'=>zbe w' w.heap.size v p.1.1∧StK C w dv ptrs p.1.2 p.2 w') (.returned (.slice ra ids.length rc)) w3 from
       .inl ⟨((ids,xs),s3),_,MD1.out.trans (by rw[MD2.out,zae,hr,zae]),rfl,⟨hR1,news,hE3,hT1,hS1⟩,HC1.out.trans (hch3.mono (by simp) (by simp))⟩)
      clear hr hE3 hch3 hS1 hT1 hR1
      go_wp2_with fail
      go_ret
      exact FIN.out
     ·exact⟨rfl,.inr ⟨f,b,MD1.out.trans (by rw[MD2.out,zae,hr];rfl),rfl,hfb,Nat.le_trans HC1.out.size hle,HC1.out.trans (hch3.mono (by simp) (by simp))⟩⟩
end
end Go.Proofs.YtkmcihhndgdhpaaGreat
