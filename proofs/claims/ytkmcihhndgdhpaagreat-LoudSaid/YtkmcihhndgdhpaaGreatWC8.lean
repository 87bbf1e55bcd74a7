/- KpA KpB: parts of the walk. -/
import Derived.Test.YtkmcihhndgdhpaaGreatWC2
import Derived.Test.YtkmcihhndgdhpaaGreatWC7
set_option maxRecDepth 100000
set_option maxHeartbeats 4000000
set_option linter.unusedSimpArgs false
set_option linter.unusedVariables false
namespace Go.Proofs.YtkmcihhndgdhpaaGreat
section
open Go.RowKit Go.Maps Go.ChangeMaps Go.Shelf
set_option linter.unusedSimpArgs false
def RcPost (P:Pr)(w:World)(e:Ending)(w':World):Prop:=∃ rp pb,e=.returned (.tuple #[.pointer (some ⟨rp,0,none⟩),.nilIface])∧Blk w' rp 162 #[.pointer (some ⟨pb,0,none⟩)]∧zgw w' w.heap.size pb P∧Below w.heap.size w w'
theorem zgw.below {w w':World}{B pb M:Nat}{P:Pr}(h:zgw w B pb P)(hb:Below M w w')(hM:w.heap.size≤M):zgw w' B pb P:=by
 obtain⟨X,h⟩:=h
 exact⟨X,h.below hb hM⟩
theorem zve (t:ByteArray)(P:Pr)(h:zbu t=.ok P)(w:World):Calls Tryz.prog 34 #[.string t] w (RcPost P w):=by
 have HL:=zH (zsz w t)
 have H:=zH h
 clear h
 go_enter Tryz.func34,Tryz.ntmps34
 go_wp2_with fail
 refine HL.out.mono ?_
 rintro e w1 (⟨P',b,hr,rfl,hp,hle,hb⟩ | ⟨f,b,hr,_⟩)
 rotate_left
 ·rw[H.out]at hr
  cases hr
 ·rw[H.out]at hr
  injection hr with hr
  subst hr
  have FIN:=zH (show RcPost P w (.returned (.tuple #[.pointer (some ⟨w1.heap.size,0,none⟩),.nilIface])) (w1.alloc (.cells #[.pointer (some ⟨b,0,none⟩)] 162))from⟨_,_,rfl,Blk.newAt rfl,hp.below ((Below.refl w1.heap.size w1).alloc (Nat.le_refl _) _) (Nat.le_refl _),hb.alloc hb.size _⟩)
  clear hp hle hb
  go_wp2_with fail
  exact bodyPost_ret (v:=.tuple #[.pointer (some ⟨w1.heap.size,0,none⟩),.nilIface]) (by simp[results,Tryz.results34,go_sem]) rfl FIN.out
def PrPost (P:Pr)(w:World)(e:Ending)(w':World):Prop:=∃ pp rp pb,e=.returned (.tuple #[.pointer (some ⟨pp,0,none⟩),.int .i64 0,.int .i64 0])∧Blk w' pp 82 #[.pointer (some ⟨rp,0,none⟩)]∧Blk w' rp 162 #[.pointer (some ⟨pb,0,none⟩)]∧zgw w' w.heap.size pb P∧Below w.heap.size w w'
theorem zs2 (t:ByteArray)(P:Pr)(h:zbu t=.ok P)(w:World):Calls Tryz.prog 15 #[.string t] w (PrPost P w):=by
 have HR:=zH (zve t P h w)
 clear h
 go_enter Tryz.func15,Tryz.ntmps15
 go_wp2_with fail
 refine HR.out.mono ?_
 rintro e w1 ⟨rp,pb,rfl,hr,hp,hb⟩
 have FIN:=zH (show PrPost P w (.returned (.tuple #[.pointer (some ⟨w1.heap.size,0,none⟩),.int .i64 0,.int .i64 0])) (w1.alloc (.cells #[.pointer (some ⟨rp,0,none⟩)] 82))from⟨_,_,_,rfl,Blk.newAt rfl,hr.alloc _,hp.below ((Below.refl w1.heap.size w1).alloc (Nat.le_refl _) _) (Nat.le_refl _),hb.alloc hb.size _⟩)
 clear hr hp hb
 go_wp2_with fail
 exact bodyPost_ret (v:=.tuple #[.pointer (some ⟨w1.heap.size,0,none⟩),.int .i64 0,.int .i64 0]) (by simp[results,Tryz.results15,go_sem]) rfl FIN.out
def AllAt (P:Pr)(w:World)(e:Ending)(w':World):Prop:=∃ rs v ps,zij P rs∧e=.returned v∧zel w' w.heap.size v (runY (zdc 5000) [] rs) ps∧Below w.heap.size w w'
theorem zts (C:AX)(hW:WfAll C)(w:World)(hon:C.on w)(pp rp:Nat)(hp:Blk w pp 82 #[.pointer (some ⟨rp,0,none⟩)])(hr:Blk w rp 162 #[.pointer (some ⟨C.pb,0,none⟩)]) :
  Calls Tryz.prog 32 #[.pointer (some ⟨pp,0,none⟩)] w (AllAt C.P w):=by
 have HP:=zH (zxs C hW w hon pp rp (-1) hp hr)
 clear hp hr hon hW
 go_enter Tryz.func32,Tryz.ntmps32
 go_wp2_with fail
 refine HP.out.mono ?_
 rintro e w1 ⟨rs,v,ps,hR,rfl,hA,hb⟩
 obtain⟨va,vc,rfl⟩:=zbx hA.r
 have FIN:=zH (show AllAt C.P w (.returned (.slice va (runY (zdc (zix (-1))) [] rs).length vc)) w1 from⟨rs,_,ps,hR,rfl,hA,hb⟩)
 clear hR hA hb
 go_wp2_with fail
 go_ret
 exact FIN.out
def pickM (c n:Int):Int:=(if c<0 then -(c+1)else c).tmod n
end
section
open Go.RowKit Go.Maps Go.ChangeMaps Go.Shelf
set_option linter.unusedSimpArgs false
def zqu (n:Nat)(w:World)(e:Ending)(w':World):Prop:=∃ k:Nat,k<n∧e=.returned (.int .i64 (k:Int))∧w=w'
theorem zp5 (c:Int)(n:Nat)(w:World)(hn:1≤n):zqu n w (.returned (.int .i64 (c % (n:Int)))) w:=by
 have h1:=Int.emod_nonneg c (b:=(n:Int)) (by omega)
 have h2:=Int.emod_lt_of_pos c (b:=(n:Int)) (by omega)
 exact⟨(c % (n:Int)).toNat,by omega,by rw[Int.toNat_of_nonneg h1],rfl⟩
theorem zpi (c:Int)(n:Nat)(w:World)(h1:-9223372036854775808≤c)(h2:c≤9223372036854775807)(hn:1≤n∧n≤1000):Calls Tryz.prog 13 #[.int .i64 c,.int .i64 (n:Int)] w (zqu n w):=by
 cases hneg:decide (c<0)
 ·have hge:0≤c:=by have:=of_decide_eq_false hneg;omega
  have FIN:=zH (zp5 c n w hn.1)
  go_enter Tryz.func13,Tryz.ntmps13
  go_wp2_with fail
  go_ret
  exact FIN.out
 ·have hlt:c<0:=of_decide_eq_true hneg
  have FIN:=zH (zp5 (-(c+1)) n w hn.1)
  go_enter Tryz.func13,Tryz.ntmps13
  go_wp2_with fail
  go_ret
  rw[← Int.neg_tmod,Int.tmod_eq_emod_of_nonneg (by omega)]
  exact FIN.out
def zaw (t:ByteArray):Nat→ByteArray
 | 0=>⟨#[]⟩
 | n+1=>zaw t n++t
theorem zep (t:ByteArray):∀ n,(zaw t n).size=n*t.size
 | 0=>by rw[Nat.zero_mul];rfl
 | n+1=>by rw[zaw,ByteArray.size_append,zep t n,Nat.add_mul,Nat.one_mul]
def TmRel (t:ByteArray)(n:Nat)(w:World)(gk:Nat)(v1 v5:Value)(W:World):Prop:=∃ k:Nat,k≤n∧gk=n-k∧v1=.int .i64 ((n-k:Nat):Int)∧v5=.string (zaw t k)∧W=w
theorem zfo (t:ByteArray)(n:Nat)(w:World)(ht:t.size≤100)(hn:n≤100):Calls Tryz.prog 66 #[.string t,.int .i64 (n:Int)] w fun e w'=>e=.returned (.string (zaw t n))∧w=w':=by
 have ST:=zH (show TmRel t n w n (.int .i64 (n:Int)) (.string ⟨#[]⟩) w from⟨0,Nat.zero_le _,rfl,rfl,rfl,rfl⟩)
 have HT:=zH ht
 go_enter Tryz.func66,Tryz.ntmps66
 go_wp2_with fail
 go_loopg [1,5] n (fun gk v1 v5 wr=>TmRel t n w gk v1 v5 wr)
 case atStart=>exact ST.out
 case round =>
  obtain⟨k,hk,hg,rfl,rfl,rfl⟩:=hrel
  have HG:=zH hg
  clear hg
  by_cases hlt:k<n
  ·have hpos:0<n-k:=by omega
   have hsz:¬ 9223372036854775807<(zaw t k).size+t.size:=by
    rw[zep]
    have:k*t.size≤100*100:=Nat.mul_le_mul (by omega) HT.out
    have:=HT.out
    omega
   have REL:=zH (show TmRel t n wr (n-(k+1)) (.int .i64 ((n-(k+1):Nat):Int)) (.string (zaw t (k+1))) wr from⟨k+1,hlt,rfl,rfl,rfl,rfl⟩)
   go_wp2_with fail
   go_roundg (n-(k+1))
   case measure=>have:=HG.out;omega
   case rel=>rw[show((n-k:Nat):Int)-1=((n-(k+1):Nat):Int) by omega];exact REL.out
  ·obtain rfl:k=n:=by omega
   go_wp2_with fail
   go_ret
   exact⟨rfl,rfl⟩
def zlz (b:Bool)(w:World)(e:Ending)(w':World):Prop:=e=.returned (.bool b)∧Below w.heap.size w w'
def SiRel (la lb:List Nat)(w:World)(gk:Nat)(v5:Value)(W:World):Prop:=∃ k:Nat,v5=.int .i64 k∧gk=la.length-k∧k≤la.length∧la.take k=lb.take k∧Below w.heap.size w W
theorem zrq (Ba Bb:Nat)(va vb:Value)(la lb:List Nat)(w:World)(ha:w.ownsRow Ba 3 1 va la.length (ints la))(hb:w.ownsRow Bb 3 1 vb lb.length (ints lb))(hl:la.length≤1000) :
  Calls Tryz.prog 68 #[va,vb] w (zlz (decide (la=lb)) w):=by
 obtain⟨a1,c1,rfl⟩:=zbx ha
 obtain⟨b1,c2,rfl⟩:=zbx hb
 have HA:=zH ha
 have HB:=zH hb
 clear ha hb
 by_cases hlen:la.length=lb.length
 ·have hne:((la.length:Int) != (lb.length:Int))=false:=by simp[hlen]
  have ST:=zH (show SiRel la lb w la.length (.int .i64 (0:Int)) w from⟨0,rfl,rfl,Nat.zero_le _,by simp,Below.refl _ _⟩)
  have HLEN:=zH hlen
  clear hlen
  go_enter Tryz.func68,Tryz.ntmps68
  go_wp2_with fail
  clear hne
  go_loopg [5] la.length (fun gk v5 wr=>SiRel la lb w gk v5 wr)
  case atStart=>exact ST.out
  case round =>
   obtain⟨k,rfl,hg,hk,ht,hbw⟩:=hrel
   have HG:=zH hg
   have HT:=zH ht
   have HBW:=zH hbw
   clear hg ht hbw
   by_cases hlt:k<la.length
   ·have hltb:k<lb.length:=by have:=HLEN.out;omega
    obtain⟨x,hx⟩:∃ x,la[k]? = some x:=⟨_,List.getElem?_eq_getElem hlt⟩
    obtain⟨y,hy⟩:∃ y,lb[k]? = some y:=⟨_,List.getElem?_eq_getElem hltb⟩
    have hra:=zbz HA.out HBW.out.drew fun k e=>(HA.out.lt k e).2
    have hrb:=zbz HB.out HBW.out.drew fun k e=>(HB.out.lt k e).2
    obtain⟨ga,gc1,hva,_,_⟩:=hra.form (by omega)
    obtain⟨gb,gc2,hvb,_,_⟩:=hrb.form (by omega)
    injection hva with e1 e2 e3
    injection hvb with e4 e5 e6
    subst e1
    subst e4
    clear e2 e3 e5 e6
    have hHeld:=And.intro (show wr.drew.cell? ⟨ga,k,none⟩=some (.int .i64 (x:Int)) by rw[hra.cellAt k (by omega)];simp[ints,hx]) (show wr.drew.cell? ⟨gb,k,none⟩=some (.int .i64 (y:Int)) by rw[hrb.cellAt k (by omega)];simp[ints,hy])
    have HX:=zH (And.intro hx hy)
    clear hra hrb hx hy
    go_wp2_with fail
    refine zah 8 (fun(W':World)=>W'.cell? ⟨ga,k,none⟩=some (.int .i64 (x:Int))∧W'.cell? ⟨gb,k,none⟩=some (.int .i64 (y:Int))) (by kernel_rfl) rfl rfl (by kernel_rfl) ?_
    simp only[List.take_succ_cons,List.take_zero]
    iterate 8(refine tk 0 rfl (by kernel_rfl) (fun _ _ _ h=>h) hHeld (fun w hSw=>by go_simp;try with_reducible rfl) (by simp only[pA,pB,pC,pD,pE,pF,pG,pH];exact rfl) ?_)
    refine lst (by kernel_rfl) rfl fun K hK=>?_
    go_simp
    refine hK _ _ ?_
    clear hK K hHeld
    by_cases hxy:x=y
    ·have hn:((x:Int) != (y:Int))=false:=by simp[hxy]
     have REL:=zH (show SiRel la lb w (la.length-(k+1)) (.int .i64 ((k+1:Nat):Int)) wr.drew from⟨k+1,rfl,rfl,hlt,by rw[List.take_add_one,List.take_add_one,HT.out,HX.out.1,HX.out.2,hxy],HBW.out.drew⟩)
     clear hxy
     go_wp2_with fail
     go_roundg (la.length-(k+1))
     case measure=>have:=HG.out;omega
     case rel=>rw[show((k:Int)+1)=((k+1:Nat):Int) by omega];exact REL.out
    ·have hn:((x:Int) != (y:Int))=true:=by rw[bne_iff_ne];omega
     have FIN:=zH (show zlz (decide (la=lb)) w (.returned (.bool false)) wr.drew from⟨by
      rw[decide_eq_false]
      intro e
      have:=HX.out.1
      rw[e,HX.out.2]at this
      injection this with this
      exact hxy this.symm,HBW.out.drew⟩)
     clear hxy
     go_wp2_with fail
     go_ret
     exact FIN.out
   ·obtain rfl:k=la.length:=by omega
    have FIN:=zH (show zlz (decide (la=lb)) w (.returned (.bool true)) wr from⟨by
     rw[decide_eq_true]
     have:=HT.out
     rw[List.take_length,HLEN.out,List.take_length]at this
     exact this,HBW.out⟩)
    go_wp2_with fail
    go_ret
    exact FIN.out
 ·have hne:((la.length:Int) != (lb.length:Int))=true:=by simp;omega
  have FIN:=zH (show zlz (decide (la=lb)) w (.returned (.bool false)) w from⟨by rw[decide_eq_false];intro e;exact hlen (by rw[e]),Below.refl _ _⟩)
  clear hlen
  go_enter Tryz.func68,Tryz.ntmps68
  go_wp2_with fail
  go_ret
  exact FIN.out
end
end Go.Proofs.YtkmcihhndgdhpaaGreat
