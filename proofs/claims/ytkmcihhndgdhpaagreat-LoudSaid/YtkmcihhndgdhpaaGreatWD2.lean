/- KpE: parts of the walk. -/
import Derived.Test.YtkmcihhndgdhpaaGreatWD1
set_option maxRecDepth 100000
set_option maxHeartbeats 4000000
set_option linter.unusedSimpArgs false
set_option linter.unusedVariables false
namespace Go.Proofs.YtkmcihhndgdhpaaGreat
section
open Go.RowKit Go.Maps Go.ChangeMaps Go.Shelf
set_option linter.unusedSimpArgs false
theorem zos (lim:Int):∀ (rs l:List Rp),(l.length:Int)+rs.length<lim→runY (zdc lim) l rs=l++rs
 | [],l,_=>by simp[runY]
 | r::rs,l,h=>by
  have hs:zdc lim (l++[r])=false:=by
   rw[znz,decide_eq_false_iff_not]
   simp only[List.length_cons]at h
   omega
  unfold runY
  rw[hs]
  simp only[Bool.false_eq_true,if_false]
  rw[zos lim rs (l++[r]) (by simp only[List.length_cons,List.length_append,List.length_nil]at h ⊢;omega)]
  simp
theorem zrg:∀ {l:List Rp} {ps:List (Value×Value)} {i:Nat} {r:Rp} {p:Value×Value},l[i]? = some r→ps[i]? = some p→∀ j,j<8→(zfh l ps)[i*8+j]? = (zbt r p.1 p.2).toList[j]?
 | [],_,i,r,p,h,_,_,_=>by simp at h
 | _::_,[],i,r,p,_,h,_,_=>by simp at h
 | a::l,b::ps,0,r,p,h,hp,j,hj=>by
  simp at h hp
  subst h hp
  show((zbt a b.1 b.2).toList++zfh l ps)[0*8+j]? = _
  rw[List.getElem?_append_left (by show _<8;omega),Nat.zero_mul,Nat.zero_add]
 | a::l,b::ps,i+1,r,p,h,hp,j,hj=>by
  show((zbt a b.1 b.2).toList++zfh l ps)[(i+1)*8+j]? = _
  rw[List.getElem?_append_right (by show 8≤_;omega),show(i+1)*8+j-(zbt a b.1 b.2).toList.length=i*8+j by show _-8=_;omega]
  exact zrg (by simpa using h) (by simpa using hp) j hj
theorem zel.at_ {W:World}{B:Nat}{a:Option Addr}{c:Nat}{l:List Rp}{ps:List (Value×Value)}(h:zel W B (.slice a l.length c) l ps){i:Nat}{r:Rp}(hi:l[i]? = some r) :
  ∃ g p,a=some ⟨g,0,none⟩∧ps[i]? = some p∧(∀ W',Below W.heap.size W W'→RcAt r W' g (i*8) p.1 p.2)∧W.ownsRow 0 3 1 p.1 r.la.length (ints r.la)∧W.ownsRow 0 3 1 p.2 r.lb.length (ints r.lb):=by
 have hlt:i<l.length:=(List.getElem?_eq_some_iff.1 hi).1
 obtain⟨p,hp⟩:∃ p,ps[i]? = some p:=⟨_,List.getElem?_eq_getElem (by rw[h.n];exact hlt)⟩
 obtain⟨g,c',hv,_,_⟩:=h.r.form (by omega)
 injection hv with e1 e2 e3
 subst e1
 refine⟨g,p,rfl,hp,fun W' hW=>?_,zbn (h.k i r p hi hp).1 (Nat.zero_le _),zbn (h.k i r p hi hp).2 (Nat.zero_le _)⟩
 have hr:=zbz h.r hW fun k e=>(h.r.lt k e).2
 have key:∀ j,j<8→W'.cell? ⟨g,i*8+j,none⟩=(zbt r p.1 p.2).toList[j]? := fun j hj=>by
  rw[hr.cellAt (i*8+j) (by omega)]
  exact zrg hi hp j hj
 exact⟨key 0 (by omega),key 1 (by omega),key 2 (by omega),key 3 (by omega),key 4 (by omega),key 5 (by omega),key 6 (by omega),key 7 (by omega)⟩
theorem zup {k n:Nat}:(zdd k n).length≤2∧∀ r ∈ zdd k n,r.la.length≤1000∧r.lb.length≤1000:=by
 unfold zdd
 split <;> exact⟨by simp,by simp⟩
def zmo (w:World)(e:Ending)(w':World):Prop:=e=.returned (.bool true)∧Below w.heap.size w w'
def LdRel (n:Nat)(w:World)(gk:Nat)(v10:Value)(W:World):Prop:=∃ i:Nat,v10=.int .i64 i∧gk=n-i∧i≤n∧Below w.heap.size w W
theorem loud_any (k n:Nat)(hk:k<12)(hn:n<4)(w:World):Calls Tryz.prog 12 #[.int .i64 (k:Int),.int .i64 (n:Int)] w (zmo w):=by
 obtain⟨P,hP,hW,hU⟩:=nd_ok hk hn
 have hsm:=zup (k:=k) (n:=n)
 have HN:=zH (zx8 k n hk hn w)
 have HR:=zH (fun(W:World)=>zs2 (bytes (zaz k n)) P hP W)
 have HU:=zH hU
 have HW:=zH hW
 have HSM:=zH hsm
 clear hP hU hW hk hn hsm
 unfold zej at HN
 generalize bytes (zaz k n)=S at HN HR
 generalize zdd k n=l at HN HU HSM
 go_enter Tryz.func12,Tryz.ntmps12
 go_wp2_with fail
 refine HN.out.mono ?_
 rintro e w1 ⟨v,ps,rfl,hA,hb1⟩
 obtain⟨a1,c1,rfl⟩:=zbx hA.r
 go_wp2_with fail
 have hb2:Below w.heap.size w (w1.alloc (.cells #[.string S,.slice a1 l.length c1] 73)):=hb1.alloc hb1.size _
 have hA2:=hA.below ((Below.refl w1.heap.size w1).alloc (Nat.le_refl _) (.cells #[.string S,.slice a1 l.length c1] 73)) (Nat.le_refl _)
 have hk5:Blk (w1.alloc (.cells #[.string S,.slice a1 l.length c1] 73)) w1.heap.size 73 #[.string S,.slice a1 l.length c1]:=Blk.newAt rfl
 obtain⟨kb,hkb⟩:∃ kb,kb=w1.heap.size:=⟨_,rfl⟩
 rw[← hkb]at hk5 ⊢
 generalize w1.alloc (.cells #[.string S,.slice a1 l.length c1] 73)=w2 at hb2 hA2 hk5 ⊢
 have HB2:=zH hb2
 have HA2:=zH hA2
 have HK2:=zH hk5
 clear hA hb1 hb2 hA2 hk5 hkb
 refine(HR.out w2).mono ?_
 rintro e w3 ⟨pp,rp,pb,rfl,hp,hr,hpa,hb3⟩
 obtain⟨X,hX⟩:=hpa
 obtain⟨fg,fcap,cg,ccap,hax⟩:=hX.ax HW.out.p
 have HB3:=zH (HB2.out.trans (hb3.mono HB2.out.size))
 have HA3:=zH (HA2.out.below hb3 (Nat.le_refl _))
 have HK3:=zH (HK2.out.below hb3 HK2.out.lt)
 have HRE:=zH (zts ⟨w3,w2.heap.size,pb,P,X,fg,fcap,cg,ccap⟩ ⟨hax,HW.out.r,HW.out.l,HW.out.io⟩ w3 (Below.refl _ _) pp rp hp hr)
 clear hp hr hX hax hb3
 go_wp2_with fail
 refine HRE.out.mono ?_
 rintro e w4 ⟨rs,v2,ps2,hRI,rfl,hA4,hb4⟩
 rw[HU.out rs hRI,zos 5000 l [] (by have:=HSM.out.1;simp;omega),List.nil_append]at hA4
 obtain⟨a2,c2,rfl⟩:=zbx hA4.r
 have HB4:=zH (HB3.out.trans (hb4.mono HB3.out.size))
 have HA4:=zH hA4
 have HA4k:=zH (HA3.out.below hb4 (Nat.le_refl _))
 have HK4:=zH (HK3.out.below hb4 HK3.out.lt)
 have kc:=HK4.out.cell
 have kl:=HK4.out.lt
 have hne:((l.length:Int) != (l.length:Int))=false:=by simp
 clear hRI hA4 hb4
 go_wp2_with fail
 clear kc kl hne
 have ST:=zH (show LdRel l.length w4 l.length (.int .i64 (0:Int)) w4 from⟨0,rfl,rfl,Nat.zero_le _,Below.refl _ _⟩)
 go_loopg [10] l.length (fun gk v10 wr=>LdRel l.length w4 gk v10 wr)
 case atStart=>exact ST.out
 case round =>
  obtain⟨i,rfl,hg,hi,hb⟩:=hrel
  have HG:=zH hg
  have HB:=zH hb
  clear hg hb
  by_cases hlt:i<l.length
  ·obtain⟨r,hri⟩:∃ r,l[i]? = some r:=⟨_,List.getElem?_eq_getElem hlt⟩
   have hrm:=HSM.out.2 r (List.mem_of_getElem? hri)
   have hi3:i<3:=by have:=HSM.out.1;omega
   obtain⟨g1,p1,e1,_,hc1,hla1,hlb1⟩:=(HA4k.out.below HB.out.drew (Nat.le_refl _)).at_ hri
   obtain⟨g2,p2,e2,_,hc2,hla2,hlb2⟩:=(HA4.out.below HB.out.drew (Nat.le_refl _)).at_ hri
   subst e1 e2
   have HAL:=zH (zx9 r g2 (i*8) g1 (i*8) p2.1 p2.2 p1.1 p1.2 wr.drew hc2 hc1 hrm hla2 hlb2 hla1 hlb1)
   have hHeld:wr.drew.cell? ⟨kb,1,none⟩=some (.slice (some ⟨g1,0,none⟩) l.length c1):=(HK4.out.below HB.out.drew HK4.out.lt).cell 1
   clear hri hc1 hc2 hla1 hla2 hlb1 hlb2 hrm
   go_wp2_with fail
   refine zah 8 (fun(W':World)=>W'.cell? ⟨kb,1,none⟩=some (.slice (some ⟨g1,0,none⟩) l.length c1)) (by kernel_rfl) rfl rfl (by kernel_rfl) ?_
   simp only[List.take_succ_cons,List.take_zero]
   iterate 7(refine tk 0 rfl (by kernel_rfl) (fun _ _ _ h=>h) hHeld (fun w hSw=>by go_simp;try with_reducible rfl) (by simp only[pA,pB,pC,pD,pE,pF,pG,pH];exact rfl) ?_)
   refine rdy 7 (by kernel_rfl) rfl fun K hK=>?_
   go_simp
   refine HAL.out.mono ?_
   rintro e w6 ⟨rfl,hb6⟩
   have HB6:=zH (show Below w4.heap.size w4 w6 from HB.out.drew.trans (hb6.mono HB.out.drew.size))
   refine hK.out _ _ ((HK4.out.below HB6.out HK4.out.lt).cell 1) (fun hHeld=>?_)
   clear hK K hb6
   refine lst (by kernel_rfl) rfl fun K hK=>?_
   go_simp
   refine hK _ _ ?_
   clear hK K hHeld
   have REL:=zH (show LdRel l.length w4 (l.length-(i+1)) (.int .i64 ((i+1:Nat):Int)) w6 from⟨i+1,rfl,rfl,hlt,HB6.out⟩)
   go_wp2_with fail
   go_roundg (l.length-(i+1))
   case measure=>have:=HG.out;omega
   case rel=>rw[show((i:Int)+1)=((i+1:Nat):Int) by omega];exact REL.out
  ·obtain rfl:i=l.length:=by omega
   have FIN:=zH (show zmo w (.returned (.bool true)) wr from⟨rfl,HB4.out.trans (HB.out.mono HB4.out.size)⟩)
   go_wp2_with fail
   go_ret
   exact FIN.out
theorem Loud_any (c n:Int)(w:World)(h1:-9223372036854775808≤c∧c≤9223372036854775807)(h2:-9223372036854775808≤n∧n≤9223372036854775807):Calls Tryz.prog 4 #[.int .i64 c,.int .i64 n] w (zmo w):=by
 have HP1:=zH (zpi c 12 w h1.1 h1.2 (by omega))
 have HP2:=zH (zpi n 4 w h2.1 h2.2 (by omega))
 have HL:=zH (fun(k n:Nat) (hk:k<12) (hn:n<4)=>loud_any k n hk hn w)
 go_enter Tryz.func4,Tryz.ntmps4
 go_wp2_with fail
 refine HP1.out.mono ?_
 rintro e w1 ⟨k,hk,rfl,rfl⟩
 go_wp2_with fail
 refine HP2.out.mono ?_
 rintro e w2 ⟨m,hm,rfl,rfl⟩
 go_wp2_with fail
 refine(HL.out k m hk hm).mono ?_
 rintro e w3 ⟨rfl,hb⟩
 have HB:=zH hb
 go_wp2_with fail
 go_ret
 exact⟨rfl,HB.out⟩
end
end Go.Proofs.YtkmcihhndgdhpaaGreat
