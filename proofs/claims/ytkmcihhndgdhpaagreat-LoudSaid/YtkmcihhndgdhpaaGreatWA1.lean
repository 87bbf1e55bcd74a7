/- Name Num Next ParseM Env ParseAt ParseOk LowM Names Stm: parts of the walk. -/
import Derived.Test.YtkmcihhndgdhpaaGreatWA0
import Derived.Deep.RegionWith
import Derived.StillTailTactics
import Derived.Handy
set_option maxRecDepth 100000
set_option maxHeartbeats 4000000
set_option linter.unusedSimpArgs false
set_option linter.unusedVariables false
namespace Go.Proofs.YtkmcihhndgdhpaaGreat
section
open Go.RowKit
def kwMap:List (ByteArray×Int):=zn5.map fun l=>(⟨l.toArray⟩,1)
theorem zoo:zfl Tryz.prog 9 (fun s:ByteArray=>Value.string s) (fun s=>s.size≤maxLen):=strKey Tryz.underlying9
theorem sz_ok {s:ByteArray}(h:s.size≤1000):s.size≤maxLen:=by unfold maxLen;omega
def zmv (w:World)(b:Nat)(m:List (ByteArray×Int)):Prop:=zaf w b (fun s:ByteArray=>Value.string s) (fun s=>s.size≤maxLen) (fun n:Int=>Value.int .i64 n) m
theorem zsc (w:World):Calls Tryz.prog 290 #[] w fun e w'=>e=.returned (.map (some w.heap.size))∧zmv w' w.heap.size kwMap∧Below w.heap.size w w':=by
 have hmm:=@run_makeMap Tryz.prog
 have hl:zmv (w.alloc (.map #[] 0)) w.heap.size []:=zaf.made w _ _ _
 have hB:Below w.heap.size w (w.alloc (.map #[] 0)):=(Below.refl _ _).alloc (Nat.le_refl _) _
 have hS:w.heap.size≤(w.alloc (.map #[] 0)).heap.size:=by simp
 go_enter Tryz.func290,Tryz.ntmps290
 go_wp2_with (refine zxr rfl _ _ _ 212 9 3 rfl zoo Tryz.underlying212 _ _ _ _ _ hl (by rfl) (by rfl) (by rfl) (sz_ok (by decide)) ?_;clear hl;intro w1 hl hg1 hz1;replace hB:=hB.grown hg1 hS (by simp);replace hS:w.heap.size≤w1.heap.size:=(by omega);clear hg1 hz1)
 go_ret
 exact⟨rfl,hl,hB⟩
theorem kw_get (x:ByteArray):mget kwMap x=if zhp x then some 1 else none:=by
 have h:∀ l:List (List UInt8),mget (l.map fun k=>((⟨k.toArray⟩:ByteArray),(1:Int))) x=if l.contains x.data.toList then some 1 else none:=by
  intro l
  induction l with
  | nil=>rfl
  | cons a r ih =>
   simp only[List.map_cons,mget,ih,List.contains_cons]
   by_cases h:(⟨a.toArray⟩:ByteArray)=x
   ·rw[if_pos h]
    subst h
    simp
   ·rw[if_neg h]
    have:(x.data.toList==a)=false:=by
     rw[beq_eq_false_iff_ne]
     intro e
     apply h
     rw[← e]
    rw[this,Bool.false_or]
 exact h zn5
theorem zero_int (w:World):(zeroValue 3).run Tryz.prog w=.ok (.int .i64 0) w:=by kernel_rfl
theorem zq9 {w3:World}{b:Nat}{x:ByteArray}(hm:zmv w3 b kwMap)(hx:x.size≤maxLen) :
  (Instr.lookup 212 (.map (some b)) (.string x) false).run Tryz.prog w3=.ok (.int .i64 (if zhp x then 1 else 0)) w3:=by
 have h:=zaf.lookup hm zoo Tryz.underlying212 (zero_int w3) (x:=x) hx false
 rw[kw_get]at h
 cases hk:zhp x <;> rw[hk]at h <;> exact h
def ScMove (B:Nat)(w:World)(sb:Nat)(t:ByteArray)(k:Nat)(sg:UInt8)(p:UInt8→Bool)(j:Nat)(wr:World):Prop :=
 k≤j∧j≤t.size∧za4 p t k=za4 p t j∧ScAt wr sb t { at_:=j,kind:=0,tok:={ at_:=k },sign:=sg }∧Chg B [] [sb] w wr
def zey (B:Nat)(w:World)(sb:Nat)(t:ByteArray)(s:Sc)(w':World):Prop:=ScAt w' sb t s∧Chg B [] [sb] w w'
theorem zey.below {B:Nat}{w:World}{sb:Nat}{t:ByteArray}{s:Sc}{w1 w2:World}(h:zey B w sb t s w1)(hb:Below w1.heap.size w1 w2):zey B w sb t s w2 :=
 ⟨Blk.below h.1 hb h.1.lt,h.2.trans (Chg.of_below hb (Nat.le_refl _) _ _ _)⟩
theorem zey.text {B:Nat}{w:World}{sb:Nat}{t:ByteArray}{s:Sc}{w1:World}(h:zey B w sb t s w1):w1.cell? ⟨sb,3,none⟩=some (.string s.tok.text):=by
 rw[Blk.cell h.1];rfl
theorem name_any (B:Nat)(w:World)(sb:Nat)(t:ByteArray)(k:Nat)(sg:UInt8)(hB:B≤sb)(hk:k<t.size)(ht:t.size≤700)
  (h:ScAt w sb t { at_:=k,kind:=0,tok:={ at_:=k },sign:=sg }) :
  Calls Tryz.prog 240 #[.pointer (some ⟨sb,0,none⟩)] w (Post B [] [sb] w (ze4 t k sg) (fun s' v w'=>v=.tuple #[]∧ScAt w' sb t s')):=by
 have hc:=Blk.cell h
 have hf:=Blk.frozen h
 have H:=zH h
 clear h
 go_enter Tryz.func240,Tryz.ntmps240
 go_wp2_with fail
 go_loopg [] (t.size-k) (fun n wr=>∃ j:Nat,n=t.size-j∧ScMove B w sb t k sg ze9 j wr)
 case atStart=>exact⟨k,rfl,Nat.le_refl _,by omega,rfl,H.out,Chg.refl _ _ _ _⟩
 case round =>
  obtain⟨j,hn,hj1,hj2,hj3,hs,hch⟩:=hrel
  have N:=zH hn
  have E:=zH hj3
  have hcr:=Blk.cell hs
  have hfr:=Blk.frozen hs
  have HS:=zH hs
  have HC:=zH hch
  clear hs hch hj3 hn hc hf
  have hx:=zmh ze9 t j hj2
  rcases hx with⟨hlt,hal,hst⟩ | ⟨hlt,hal,hst⟩ | ⟨hge,hst⟩
  ·have hb:=zhn t j hlt
   have ST:=zH hst
   have hal':=zuj hal
   clear hal hst
   rcases hal' with hs | ⟨hs,hd⟩
   all_goals
    go_wp2_with fail
    go_quiet (fail)
    go_wp2_with fail
    go_quiet ((go_at_call 238;first | exact zch (zie _ _) | exact zc8 (zie _ _)))
    go_wp2_with fail
    go_quiet ((go_at_call 239;first | exact zch (ze7 _ _) | exact zc8 (ze7 _ _)))
    go_wp2_with fail
    go_roundg (t.size-(j+1))
    case measure=>have:=N.out;omega
    case rel =>
     refine⟨j+1,rfl,by omega,by omega,E.out.trans ST.out,?_,?_⟩
     ·exact((Blk.drewN HS.out _).set_ _ _).cast (by simp)
     ·exact(HC.out.drewN _).setX hB (by simp) _
  ·have hb:=zhn t j hlt
   have ST:=zH (E.out.trans hst)
   obtain⟨hs,hd⟩:=alnum_no hal
   clear hal hst
   go_wp2_with fail
   go_quiet (fail)
   go_wp2_with fail
   go_quiet ((go_at_call 238;first | exact zch (zie _ _) | exact zc8 (zie _ _)))
   go_wp2_with fail
   go_quiet ((go_at_call 239;first | exact zch (ze7 _ _) | exact zc8 (ze7 _ _)))
   go_wp2_with fail
   refine zbi (fun w1=>ScAt w1 sb t { at_:=j,kind:=1,tok:={ at_:=k },sign:=sg }∧Chg B [] [sb] w w1) ⟨((Blk.drewN HS.out _).set_ _ _).cast (by simp),(HC.out.drewN _).setX hB (by simp) _⟩ ?_
   clear hcr hfr HS HC
   rintro w1 ⟨hs1,hch1⟩
   have hc1:=Blk.cell hs1
   have hf1:=Blk.frozen hs1
   have HS:=zH hs1
   have HC:=zH hch1
   clear hs1 hch1
   have hkj:(k:Int)≤j:=by omega
   have hjt:(j:Int)≤t.size:=by omega
   go_still_tail 11,(by kernel_rfl)
   change wpList _ _ _ _ _ w1.drew
   go_wp2_with fail
   refine zbi (fun w1=>ScAt w1 sb t { at_:=j,kind:=1,tok:={ text:=t.extract k j,at_:=k },sign:=sg }∧Chg B [] [sb] w w1) ⟨((Blk.drew HS.out).set_ _ _).cast (by simp),(HC.out.drew).setX hB (by simp) _⟩ ?_
   clear hc1 hf1 HS HC
   rintro w1 ⟨hs1,hch1⟩
   have hc1:=Blk.cell hs1
   have hf1:=Blk.frozen hs1
   have HS:=zH hs1
   have HC:=zH hch1
   clear hs1 hch1
   cases hkw:zhp (t.extract k j)
   all_goals
    have HKW:=zH hkw
    clear hkw
    have hsz:=zH (show(t.extract k j).size≤maxLen from sz_ok (by rw[ByteArray.size_extract];omega))
    go_region_held3 (fun w'=>w'.cell? ⟨sb,3,none⟩=some (.string (t.extract k j))∧zey B w sb t { at_:=j,kind:=1,tok:={ text:=t.extract k j,at_:=k },sign:=sg } w') (first | exact⟨hc3,hk3⟩ | exact⟨hc1 3,Blk.drew HS.out,HC.out.drew⟩ | go_keep)
     (first | (go_at_call 290;refine(zsc _).mono ?_;rintro e w3 ⟨rfl,hm3,hb3⟩;have hlk:=zq9 (b:=w1.heap.size) hm3 hsz.out;rw[HKW.out]at hlk;simp only[Bool.false_eq_true,if_false,if_true]at hlk;have hk3:zey B w sb t { at_:=j,kind:=1,tok:={ text:=t.extract k j,at_:=k },sign:=sg } w3:=zey.below ⟨Blk.drew HS.out,HC.out.drew⟩ hb3;have hc3:=zey.text hk3))
    clear hc1 hf1 hlk hc3 hm3
    have HK:=zH hk3
    have hcz:=Blk.cell hk3.1
    have hfz:=Blk.frozen hk3.1
    clear hk3 hb3
    have hsz3:=HK.out.2.size
    by_cases hl:6<j-k
    ·have hf1:Hid (ze4 t k sg=.error ⟨3,k⟩):=by unfold ze4;simp only[ST.out];exact if_pos hl
     go_wp2_with (go_at_call 157;refine(zfb _ _ _).mono ?_;rintro e w4 ⟨rfl,rfl⟩)
     refine⟨rfl,.inr ⟨⟨3,k⟩,_,hf1.out,rfl,za1.new (by simp),?_,?_⟩⟩
     ·first | exact hsz3 | (simp only[World.size_setCell];exact hsz3)
     ·first | exact HK.out.2.alloc _ | exact(HK.out.2.setX hB (by simp) _).alloc _
    ·have hf1:Hid (ze4 t k sg=.ok { at_:=j,kind:=if zhp (t.extract k j)then 4 else 1,tok:={ text:=t.extract k j,at_:=k },sign:=sg }):=by unfold ze4;simp only[ST.out];exact if_neg hl
     rw[HKW.out]at hf1
     go_wp2_with fail
     go_end0
     refine .inl ⟨_,_,hf1.out,rfl,⟨rfl,?_⟩,?_⟩
     ·first | exact HK.out.1 | exact(Blk.set_ HK.out.1 _ _).cast (by simp)
     ·first | exact HK.out.2 | exact HK.out.2.setX hB (by simp) _
  ·have ST:=zH (E.out.trans hst)
   clear hst
   go_wp2_with fail
   go_quiet (fail)
   go_wp2_with fail
   refine zbi (fun w1=>ScAt w1 sb t { at_:=j,kind:=1,tok:={ at_:=k },sign:=sg }∧Chg B [] [sb] w w1) ⟨((Blk.drewN HS.out _).set_ _ _).cast (by simp),(HC.out.drewN _).setX hB (by simp) _⟩ ?_
   clear hcr hfr HS HC
   rintro w1 ⟨hs1,hch1⟩
   have hc1:=Blk.cell hs1
   have hf1:=Blk.frozen hs1
   have HS:=zH hs1
   have HC:=zH hch1
   clear hs1 hch1
   have hkj:(k:Int)≤j:=by omega
   have hjt:(j:Int)≤t.size:=by omega
   go_still_tail 11,(by kernel_rfl)
   change wpList _ _ _ _ _ w1.drew
   go_wp2_with fail
   refine zbi (fun w1=>ScAt w1 sb t { at_:=j,kind:=1,tok:={ text:=t.extract k j,at_:=k },sign:=sg }∧Chg B [] [sb] w w1) ⟨((Blk.drew HS.out).set_ _ _).cast (by simp),(HC.out.drew).setX hB (by simp) _⟩ ?_
   clear hc1 hf1 HS HC
   rintro w1 ⟨hs1,hch1⟩
   have hc1:=Blk.cell hs1
   have hf1:=Blk.frozen hs1
   have HS:=zH hs1
   have HC:=zH hch1
   clear hs1 hch1
   cases hkw:zhp (t.extract k j)
   all_goals
    have HKW:=zH hkw
    clear hkw
    have hsz:=zH (show(t.extract k j).size≤maxLen from sz_ok (by rw[ByteArray.size_extract];omega))
    go_region_held3 (fun w'=>w'.cell? ⟨sb,3,none⟩=some (.string (t.extract k j))∧zey B w sb t { at_:=j,kind:=1,tok:={ text:=t.extract k j,at_:=k },sign:=sg } w') (first | exact⟨hc3,hk3⟩ | exact⟨hc1 3,Blk.drew HS.out,HC.out.drew⟩ | go_keep)
     (first | (go_at_call 290;refine(zsc _).mono ?_;rintro e w3 ⟨rfl,hm3,hb3⟩;have hlk:=zq9 (b:=w1.heap.size) hm3 hsz.out;rw[HKW.out]at hlk;simp only[Bool.false_eq_true,if_false,if_true]at hlk;have hk3:zey B w sb t { at_:=j,kind:=1,tok:={ text:=t.extract k j,at_:=k },sign:=sg } w3:=zey.below ⟨Blk.drew HS.out,HC.out.drew⟩ hb3;have hc3:=zey.text hk3))
    clear hc1 hf1 hlk hc3 hm3
    have HK:=zH hk3
    have hcz:=Blk.cell hk3.1
    have hfz:=Blk.frozen hk3.1
    clear hk3 hb3
    have hsz3:=HK.out.2.size
    by_cases hl:6<j-k
    ·have hf1:Hid (ze4 t k sg=.error ⟨3,k⟩):=by unfold ze4;simp only[ST.out];exact if_pos hl
     go_wp2_with (go_at_call 157;refine(zfb _ _ _).mono ?_;rintro e w4 ⟨rfl,rfl⟩)
     refine⟨rfl,.inr ⟨⟨3,k⟩,_,hf1.out,rfl,za1.new (by simp),?_,?_⟩⟩
     ·first | exact hsz3 | (simp only[World.size_setCell];exact hsz3)
     ·first | exact HK.out.2.alloc _ | exact(HK.out.2.setX hB (by simp) _).alloc _
    ·have hf1:Hid (ze4 t k sg=.ok { at_:=j,kind:=if zhp (t.extract k j)then 4 else 1,tok:={ text:=t.extract k j,at_:=k },sign:=sg }):=by unfold ze4;simp only[ST.out];exact if_neg hl
     rw[HKW.out]at hf1
     go_wp2_with fail
     go_end0
     refine .inl ⟨_,_,hf1.out,rfl,⟨rfl,?_⟩,?_⟩
     ·first | exact HK.out.1 | exact(Blk.set_ HK.out.1 _ _).cast (by simp)
     ·first | exact HK.out.2 | exact HK.out.2.setX hB (by simp) _
end
section
open Go.RowKit
theorem zrs (t:ByteArray)(k:Nat):zf2 t k k=0:=by simp[zf2]
theorem zo1 (t:ByteArray)(k j:Nat)(hk:k≤j)(hj:j<t.size):zf2 t k (j+1)=10*zf2 t k j+((zbb t j).toNat-48):=by
 have h2:j<t.data.toList.length:=by simpa using hj
 have e:zbb t j=t.data.toList[j]:=by
  unfold zbb
  rw[List.getD_eq_getElem?_getD,List.getElem?_eq_getElem h2];rfl
 unfold zf2
 have e1:j+1-k=(j-k)+1:=by omega
 rw[e1,List.take_succ_eq_append_getElem (by rw[List.length_drop];omega),List.foldl_append]
 simp only[List.foldl_cons,List.foldl_nil,List.getElem_drop,e]
 congr 3
 simp only[show k+(j-k)=j by omega]
theorem zq5 {c:UInt8}(h:zcn c=true):48≤c.toNat∧c.toNat≤57:=by
 unfold zcn at h
 simp[UInt8.le_iff_toNat_le]at h
 exact h
def Digs (t:ByteArray)(k j:Nat):Prop:=∀ i,k≤i→i<j→zcn (zbb t i)=true
theorem zq8 (t:ByteArray)(k:Nat):∀ (d:Nat),k+d≤t.size→Digs t k (k+d)→zf2 t k (k+d)<10 ^ d
 | 0,_,_=>by rw[Nat.add_zero,zrs];simp
 | d+1,h,hd=>by
  have ih:=zq8 t k d (by omega) (fun i h1 h2=>hd i h1 (by omega))
  have hb:=zq5 (hd (k+d) (by omega) (by omega))
  have:=zo1 t k (k+d) (by omega) (by omega)
  rw[← Nat.add_assoc,this,Nat.pow_succ]
  omega
theorem zyg {t:ByteArray}{k j:Nat}(hk:k≤j)(hj:j≤t.size)(hd:Digs t k j)(h6:j-k≤6):zf2 t k j<1000000:=by
 obtain⟨d,rfl⟩:∃ d,j=k+d:=⟨j-k,by omega⟩
 have h:=zq8 t k d hj hd
 have h2:10 ^ d≤10 ^ 6:=Nat.pow_le_pow_right (by omega) (by omega)
 omega
def NumRel (B:Nat)(w:World)(sb:Nat)(t:ByteArray)(k:Nat)(sg:UInt8)(n:Nat)(v:Value)(wr:World):Prop :=
 ∃ j:Nat,n=t.size-j∧ScMove B w sb t k sg zcn j wr∧j-k≤6∧Digs t k j∧v=.int .i64 (zf2 t k j)
theorem zth (B:Nat)(w:World)(sb:Nat)(t:ByteArray)(k:Nat)(sg:UInt8)(hB:B≤sb)(hk:k<t.size)(ht:t.size≤700)
  (h:ScAt w sb t { at_:=k,kind:=0,tok:={ at_:=k },sign:=sg }) :
  Calls Tryz.prog 241 #[.pointer (some ⟨sb,0,none⟩)] w (Post B [] [sb] w (zgu t k sg) (fun s' v w'=>v=.tuple #[]∧ScAt w' sb t s')):=by
 have hc:=Blk.cell h
 have hf:=Blk.frozen h
 have H:=zH h
 clear h
 go_enter Tryz.func241,Tryz.ntmps241
 go_wp2_with fail
 go_loopg [3] (t.size-k) (fun n v wr=>NumRel B w sb t k sg n v wr)
 case atStart=>exact⟨k,rfl,⟨Nat.le_refl _,by omega,rfl,H.out,Chg.refl _ _ _ _⟩,by omega,fun i _ _=>by omega,by rw[zrs];rfl⟩
 case round =>
  obtain⟨j,hn,⟨hj1,hj2,hj3,hs,hch⟩,h6,hdg,rfl⟩:=hrel
  have N:=zH hn
  have E:=zH hj3
  have hcr:=Blk.cell hs
  have hfr:=Blk.frozen hs
  have HS:=zH hs
  have HC:=zH hch
  have DG:=zH hdg
  have hbd:=zyg hj1 hj2 hdg h6
  clear hs hch hj3 hn hc hf hdg
  have hx:=zmh zcn t j hj2
  rcases hx with⟨hlt,hal,hst⟩ | ⟨hlt,hal,hst⟩ | ⟨hge,hst⟩
  ·have hb:=zhn t j hlt
   have ST:=zH hst
   have hbb:=zq5 hal
   have hd:zcn (zbb t j)=true:=hal
   clear hal hst
   by_cases h7:j-k=6
   ·have h7':((j:Int)-k==6)=true:=by simp;omega
    have h0:(0:Int)≤(j:Int)-k:=by omega
    have h7n:6≤j-k:=by omega
    clear h7
    go_wp2_with fail
    go_quiet (fail)
    go_wp2_with fail
    go_quiet ((go_at_call 239;first | exact zch (ze7 _ _) | exact zc8 (ze7 _ _)))
    go_wp2_with (go_at_call 157;refine(zfb _ _ _).mono ?_;rintro e w4 ⟨rfl,rfl⟩)
    have hrun:=zH (show 6<za4 zcn t k-k by rw[E.out,ST.out];have:=zkg zcn t (j+1);omega)
    refine⟨rfl,.inr ⟨⟨4,k⟩,_,if_pos hrun.out,rfl,za1.new (by simp),?_,(HC.out.drewN _).alloc _⟩⟩
    exact HC.out.size
   ·have h7':((j:Int)-k==6)=false:=by simp;omega
    have h0:(0:Int)≤(j:Int)-k:=by omega
    go_wp2_with fail
    go_quiet (fail)
    go_wp2_with fail
    go_quiet ((go_at_call 239;first | exact zch (ze7 _ _) | exact zc8 (ze7 _ _)))
    go_wp2_with fail
    go_quiet (fail)
    go_wp2_with fail
    go_roundg (t.size-(j+1))
    case measure=>have:=N.out;omega
    case rel =>
     refine⟨j+1,rfl,⟨by omega,by omega,E.out.trans ST.out,?_,?_⟩,by omega,?_,?_⟩
     ·exact((Blk.drewN HS.out _).set_ _ _).cast (by simp)
     ·exact(HC.out.drewN _).setX hB (by simp) _
     ·intro i h1 h2
      by_cases hi:i=j
      ·subst hi;exact hd
      ·exact DG.out i h1 (by omega)
     ·have:=zo1 t k j hj1 hlt
      rw[this]
      congr 1
      omega
  ·have hb:=zhn t j hlt
   have hf1:=zH (show zgu t k sg=.ok { at_:=j,kind:=2,tok:={ at_:=k,num:=true,n:=zf2 t k j },sign:=sg } by
    unfold zgu;simp only[E.out.trans hst];exact if_neg (by omega))
   clear hst
   go_wp2_with fail
   go_quiet (fail)
   go_wp2_with fail
   go_quiet ((go_at_call 239;first | exact zch (ze7 _ _) | exact zc8 (ze7 _ _)))
   go_wp2_with fail
   go_end0
   refine .inl ⟨_,_,hf1.out,rfl,⟨rfl,?_⟩,?_⟩
   ·exact((((Blk.drewN HS.out _).set_ _ _).set_ _ _).set_ _ _).cast (by simp)
   ·exact((((HC.out.drewN _).setX hB (by simp) _).setX hB (by simp) _).setX hB (by simp) _)
  ·have hf1:=zH (show zgu t k sg=.ok { at_:=j,kind:=2,tok:={ at_:=k,num:=true,n:=zf2 t k j },sign:=sg } by
    unfold zgu;simp only[E.out.trans hst];exact if_neg (by omega))
   clear hst
   go_wp2_with fail
   go_quiet (fail)
   go_wp2_with fail
   go_end0
   refine .inl ⟨_,_,hf1.out,rfl,⟨rfl,?_⟩,?_⟩
   ·exact((((Blk.drewN HS.out _).set_ _ _).set_ _ _).set_ _ _).cast (by simp)
   ·exact((((HC.out.drewN _).setX hB (by simp) _).setX hB (by simp) _).setX hB (by simp) _)
theorem zwz {c:UInt8}(h:zhu c=true):(c=59∨c=123∨c=125∨c=40∨c=41∨c=44∨c=46∨c=43∨c=45∨c=60)∨c=61:=by
 unfold zhu at h
 simp only[Bool.or_eq_true,beq_iff_eq]at h
 rcases h with(((((((((h | h) | h) | h) | h) | h) | h) | h) | h) | h) | h <;> simp[h]
theorem zfx {c:UInt8}(h:zhu c=false)(n:UInt8)(hn:zhu n=true):((c.toNat:Int)==(n.toNat:Int))=false:=by
 rw[beq_eq_false_iff_ne]
 intro e
 have:c=n:=UInt8.toNat_inj.1 (by omega)
 rw[this,hn]at h
 cases h
theorem signs_no (B:Nat)(w:World)(sb:Nat)(t:ByteArray)(k:Nat)(sg c:UInt8)(hn:zhu c=false)(hk:zbb t k=c)
  (h:ScAt w sb t { at_:=k,kind:=0,tok:={ at_:=k },sign:=sg }) :
  Calls Tryz.prog 242 #[.pointer (some ⟨sb,0,none⟩),.int .u8 c.toNat] w (Post B [] [sb] w (zd3 t k) (fun s' v w'=>v=.tuple #[]∧ScAt w' sb t s')):=by
 have hc:=Blk.cell h
 have H:=zH h
 have hf1:=zH (show zd3 t k=.error ⟨2,k⟩ by unfold zd3;rw[hk,hn];rfl)
 have n1:((c.toNat:Int)==59)=false:=zfx hn 59 rfl
 have n2:((c.toNat:Int)==123)=false:=zfx hn 123 rfl
 have n3:((c.toNat:Int)==125)=false:=zfx hn 125 rfl
 have n4:((c.toNat:Int)==40)=false:=zfx hn 40 rfl
 have n5:((c.toNat:Int)==41)=false:=zfx hn 41 rfl
 have n6:((c.toNat:Int)==44)=false:=zfx hn 44 rfl
 have n7:((c.toNat:Int)==46)=false:=zfx hn 46 rfl
 have n8:((c.toNat:Int)==43)=false:=zfx hn 43 rfl
 have n9:((c.toNat:Int)==45)=false:=zfx hn 45 rfl
 have n10:((c.toNat:Int)==60)=false:=zfx hn 60 rfl
 have n11:((c.toNat:Int)==61)=false:=zfx hn 61 rfl
 clear h hn hk
 go_enter Tryz.func242,Tryz.ntmps242
 go_wp2_with (go_at_call 157;refine(zfb _ _ _).mono ?_;rintro e w4 ⟨rfl,rfl⟩)
 exact⟨rfl,.inr ⟨⟨2,k⟩,_,hf1.out,rfl,za1.new (by simp),Nat.le_refl _,(Chg.refl _ _ _ _).alloc _⟩⟩
theorem zs3 (B:Nat)(w:World)(sb:Nat)(t:ByteArray)(k:Nat)(sg c:UInt8)(hB:B≤sb)(hlt:k<t.size)(ht:t.size≤700)(hk:zbb t k=c)
  (hy:c=59∨c=123∨c=125∨c=40∨c=41∨c=44∨c=46∨c=43∨c=45∨c=60)
  (h:ScAt w sb t { at_:=k,kind:=0,tok:={ at_:=k },sign:=sg }) :
  Calls Tryz.prog 242 #[.pointer (some ⟨sb,0,none⟩),.int .u8 c.toNat] w (Post B [] [sb] w (zd3 t k) (fun s' v w'=>v=.tuple #[]∧ScAt w' sb t s')):=by
 have hc:=Blk.cell h
 have hf:=Blk.frozen h
 have H:=zH h
 have hf1:=zH (show zd3 t k=.ok { at_:=k+1,kind:=3,tok:={ at_:=k },sign:=c } by
  unfold zd3;rw[hk]
  rcases hy with rfl | rfl | rfl | rfl | rfl | rfl | rfl | rfl | rfl | rfl <;> rfl)
 clear h hk
 rcases hy with rfl | rfl | rfl | rfl | rfl | rfl | rfl | rfl | rfl | rfl
 all_goals
  go_enter Tryz.func242,Tryz.ntmps242
  go_wp2_with fail
  go_quiet (fail)
  go_wp2_with fail
  go_end0
  refine .inl ⟨_,_,hf1.out,rfl,⟨rfl,?_⟩,?_⟩
  ·exact(Blk.drewN (((Blk.set_ H.out _ _).set_ _ _).set_ _ _) _).cast (by simp)
  ·exact((((Chg.refl _ _ _ _).setX hB (by simp) _).setX hB (by simp) _).setX hB (by simp) _).drewN _
theorem signs_eq (B:Nat)(w:World)(sb:Nat)(t:ByteArray)(k:Nat)(sg:UInt8)(hB:B≤sb)(hlt:k<t.size)(ht:t.size≤700)(hk:zbb t k=61)
  (h:ScAt w sb t { at_:=k,kind:=0,tok:={ at_:=k },sign:=sg }) :
  Calls Tryz.prog 242 #[.pointer (some ⟨sb,0,none⟩),.int .u8 61] w (Post B [] [sb] w (zd3 t k) (fun s' v w'=>v=.tuple #[]∧ScAt w' sb t s')):=by
 have hc:=Blk.cell h
 have hf:=Blk.frozen h
 have H:=zH h
 obtain⟨k1,hk1⟩:∃ k1,k1=k+1:=⟨_,rfl⟩
 have K1:=zH hk1
 by_cases hx:k+1<t.size∧zbb t (k+1)=61
 ·have hf1:=zH (show zd3 t k=.ok { at_:=k+2,kind:=3,tok:={ at_:=k },sign:=101 } by
   unfold zd3;rw[hk,hx.2];simp only[hx.1,true_and];rfl)
  rw[← hk1]at hx
  obtain⟨hx1,hx2⟩:=hx
  have hb:=zhn t k1 hx1
  have hx3:((zbb t k1).toNat:Int)=61:=by rw[hx2];rfl
  clear h hk hx2 hk1
  go_enter Tryz.func242,Tryz.ntmps242
  go_wp2_with fail
  refine zbi (fun w1=>ScAt w1 sb t { at_:=k1,kind:=3,tok:={ at_:=k },sign:=61 }∧Chg B [] [sb] w w1) ⟨(((Blk.set_ H.out _ _).set_ _ _).set_ _ _).cast (by rw[K1.out];simp),(((Chg.refl _ _ _ _).setX hB (by simp) _).setX hB (by simp) _).setX hB (by simp) _⟩ ?_
  rintro w1 ⟨h1,hch⟩
  clear hc hf
  have hc:=Blk.cell h1
  have hf:=Blk.frozen h1
  have H1:=zH h1
  have HC:=zH hch
  clear h1 hch
  go_quiet (fail)
  go_wp2_with fail
  go_end0
  refine .inl ⟨_,_,hf1.out,rfl,⟨rfl,?_⟩,?_⟩
  ·exact((Blk.set_ (Blk.drewN H1.out _) _ _).set_ _ _).cast (by rw[K1.out];simp;omega)
  ·exact((HC.out.drewN _).setX hB (by simp) _).setX hB (by simp) _
 ·have hf1:=zH (show zd3 t k=.ok { at_:=k+1,kind:=3,tok:={ at_:=k },sign:=61 } by
   unfold zd3;rw[hk]
   rw[if_pos (by rfl),if_neg (fun⟨_,b⟩=>hx b)])
  rw[← hk1]at hx
  by_cases hx1:k1<t.size
  ·have hb:=zhn t k1 hx1
   have hx3:(((zbb t k1).toNat:Int)==61)=false:=by
    rw[beq_eq_false_iff_ne]
    intro e
    exact hx ⟨hx1,UInt8.toNat_inj.1 (show _=61 by omega)⟩
   clear h hk hx hk1
   go_enter Tryz.func242,Tryz.ntmps242
   go_wp2_with fail
   refine zbi (fun w1=>ScAt w1 sb t { at_:=k1,kind:=3,tok:={ at_:=k },sign:=61 }∧Chg B [] [sb] w w1) ⟨(((Blk.set_ H.out _ _).set_ _ _).set_ _ _).cast (by rw[K1.out];simp),(((Chg.refl _ _ _ _).setX hB (by simp) _).setX hB (by simp) _).setX hB (by simp) _⟩ ?_
   rintro w1 ⟨h1,hch⟩
   clear hc hf
   have hc:=Blk.cell h1
   have hf:=Blk.frozen h1
   have H1:=zH h1
   have HC:=zH hch
   clear h1 hch
   go_quiet (fail)
   go_wp2_with fail
   go_end0
   refine .inl ⟨_,_,hf1.out,rfl,⟨rfl,?_⟩,HC.out.drewN _⟩
   exact(Blk.drewN H1.out _).cast (by rw[K1.out])
  ·have hge:t.size≤k1:=by omega
   clear h hk hx hk1
   go_enter Tryz.func242,Tryz.ntmps242
   go_wp2_with fail
   refine zbi (fun w1=>ScAt w1 sb t { at_:=k1,kind:=3,tok:={ at_:=k },sign:=61 }∧Chg B [] [sb] w w1) ⟨(((Blk.set_ H.out _ _).set_ _ _).set_ _ _).cast (by rw[K1.out];simp),(((Chg.refl _ _ _ _).setX hB (by simp) _).setX hB (by simp) _).setX hB (by simp) _⟩ ?_
   rintro w1 ⟨h1,hch⟩
   clear hc hf
   have hc:=Blk.cell h1
   have hf:=Blk.frozen h1
   have H1:=zH h1
   have HC:=zH hch
   clear h1 hch
   go_quiet (fail)
   go_wp2_with fail
   go_end0
   refine .inl ⟨_,_,hf1.out,rfl,⟨rfl,?_⟩,HC.out.drewN _⟩
   exact(Blk.drewN H1.out _).cast (by rw[K1.out])
theorem zwy (B:Nat)(w:World)(sb:Nat)(t:ByteArray)(k:Nat)(sg:UInt8)(hB:B≤sb)(hlt:k<t.size)(ht:t.size≤700)
  (h:ScAt w sb t { at_:=k,kind:=0,tok:={ at_:=k },sign:=sg }) :
  Calls Tryz.prog 242 #[.pointer (some ⟨sb,0,none⟩),.int .u8 (zbb t k).toNat] w (Post B [] [sb] w (zd3 t k) (fun s' v w'=>v=.tuple #[]∧ScAt w' sb t s')):=by
 cases hs:zhu (zbb t k)
 ·exact signs_no B w sb t k sg _ hs rfl h
 ·rcases zwz hs with hy | hy
  ·exact zs3 B w sb t k sg _ hB hlt ht rfl hy h
  ·have:=signs_eq B w sb t k sg hB hlt ht hy h
   rw[hy]
   exact this
end
section
open Go.RowKit
theorem ztf {c:UInt8}(h:zce c=false):((c.toNat:Int)==32)=false∧((c.toNat:Int)==10)=false:=by
 unfold zce at h
 simp only[Bool.or_eq_false_iff,beq_eq_false_iff_ne]at h
 refine⟨beq_eq_false_iff_ne.2 fun e=>h.1 (UInt8.toNat_inj.1 (show _=32 by omega)),beq_eq_false_iff_ne.2 fun e=>h.2 (UInt8.toNat_inj.1 (show _=10 by omega))⟩
theorem zu1 {c:UInt8}(h:zce c=true):(c.toNat:Int)=32∨(((c.toNat:Int)==32)=false∧(c.toNat:Int)=10):=by
 unfold zce at h
 simp only[Bool.or_eq_true,beq_iff_eq]at h
 rcases h with h | h
 ·left;rw[h];rfl
 ·right;rw[h];exact⟨rfl,rfl⟩
def NextRel (B:Nat)(w:World)(sb:Nat)(t:ByteArray)(s:Sc)(n:Nat)(wr:World):Prop :=
 ∃ j:Nat,n=t.size-j∧s.at_≤j∧j≤t.size∧za4 zce t s.at_=za4 zce t j∧ScAt wr sb t { s with at_:=j }∧Chg B [] [sb] w wr
theorem zk4 (B:Nat)(w:World)(sb:Nat)(t:ByteArray)(s:Sc)(hB:B≤sb)(hat:s.at_≤t.size)(ht:t.size≤700)(h:ScAt w sb t s) :
  Calls Tryz.prog 158 #[.pointer (some ⟨sb,0,none⟩)] w (Post B [] [sb] w (zam t s) (fun s' v w'=>v=.tuple #[]∧ScAt w' sb t s')):=by
 have H:=zH h
 clear h
 go_enter Tryz.func158,Tryz.ntmps158
 go_wp2_with fail
 go_loopg [] (t.size-s.at_) (fun n wr=>NextRel B w sb t s n wr)
 case atStart=>exact⟨s.at_,rfl,Nat.le_refl _,hat,rfl,H.out,Chg.refl _ _ _ _⟩
 case round =>
  obtain⟨j,hn,hj1,hj2,hj3,hs,hch⟩:=hrel
  have N:=zH hn
  have E:=zH hj3
  have hcr:=Blk.cell hs
  have hfr:=Blk.frozen hs
  have HS:=zH hs
  have HC:=zH hch
  clear hs hch hj3 hn
  have hx:=zmh zce t j hj2
  rcases hx with⟨hlt,hal,hst⟩ | ⟨hlt,hal,hst⟩ | ⟨hge,hst⟩
  ·have hb:=zhn t j hlt
   have ST:=zH hst
   have hal':=zu1 hal
   clear hal hst
   rcases hal' with hs | ⟨hs,hd⟩
   all_goals
    go_wp2_with fail
    go_quiet (fail)
    go_wp2_with fail
    go_roundg (t.size-(j+1))
    case measure=>have:=N.out;omega
    case rel =>
     refine⟨j+1,rfl,by omega,by omega,E.out.trans ST.out,?_,?_⟩
     ·exact((Blk.drewN HS.out _).set_ _ _).cast (by simp)
     ·exact(HC.out.drewN _).setX hB (by simp) _
  ·have hb:=zhn t j hlt
   have hend:=zH (E.out.trans hst)
   obtain⟨hs,hd⟩:=ztf hal
   have hnsz:((j:Int)==(t.size:Int))=false:=by rw[beq_eq_false_iff_ne];omega
   clear hal hst
   go_wp2_with fail
   go_quiet (fail)
   go_wp2_with fail
   refine zbi (fun w1=>ScAt w1 sb t { at_:=j,kind:=0,tok:={ at_:=j },sign:=s.sign }∧Chg B [] [sb] w w1) ⟨?_,?_⟩ ?_
   ·exact((((((Blk.drewN HS.out _).set_ _ _).set_ _ _).set_ _ _).set_ _ _).set_ _ _).cast (by simp;rfl)
   ·exact(((((HC.out.drewN _).setX hB (by simp) _).setX hB (by simp) _).setX hB (by simp) _).setX hB (by simp) _).setX hB (by simp) _
   rintro w1 ⟨h1,hch1⟩
   clear hcr hfr HS HC
   have hc1:=Blk.cell h1
   have hf0:=Blk.frozen h1
   have H1:=zH h1
   have HC1:=zH hch1
   clear h1 hch1
   go_quiet (fail)
   go_wp2_with fail
   go_quiet (fail)
   cases hsm:zfg (zbb t j)
   ·cases hdg:zcn (zbb t j)
    ·have hf1:=zH (show zam t s=zd3 t j by unfold zam;simp only[hend.out];rw[if_neg (by omega),if_neg (by rw[hsm];simp),if_neg (by rw[hdg];simp)])
     go_wp2_with (first | (go_at_call 238;refine(zie _ _).mono ?_;rintro e w' ⟨rfl,rfl⟩) | (go_at_call 239;refine(ze7 _ _).mono ?_;rintro e w' ⟨rfl,rfl⟩))
     refine(zwy B _ sb t j s.sign hB hlt ht ((Blk.drewN H1.out _).cast (by simp))).mono ?_
     rintro e w4 (⟨s',v,hr,rfl,⟨rfl,hs'⟩,hch'⟩ | ⟨f,b,hr,rfl,hfb,hle,hch'⟩)
     ·have HR:=zH hr
      have HS':=zH hs'
      have HC':=zH hch'
      clear hr hs' hch'
      go_wp2_with fail
      go_end0
      exact .inl ⟨_,_,hf1.out.trans HR.out,rfl,⟨rfl,HS'.out⟩,(HC1.out.drewN _).trans HC'.out⟩
     ·exact⟨rfl,.inr ⟨_,_,hf1.out.trans hr,rfl,hfb,Nat.le_trans HC1.out.size hle,(HC1.out.drewN _).trans hch'⟩⟩
    ·have hf1:=zH (show zam t s=zgu t j s.sign by unfold zam;simp only[hend.out];rw[if_neg (by omega),if_neg (by rw[hsm];simp),if_pos hdg])
     go_wp2_with (first | (go_at_call 238;refine(zie _ _).mono ?_;rintro e w' ⟨rfl,rfl⟩) | (go_at_call 239;refine(ze7 _ _).mono ?_;rintro e w' ⟨rfl,rfl⟩))
     refine(zth B _ sb t j s.sign hB hlt ht ((Blk.drewN H1.out _).cast (by simp))).mono ?_
     rintro e w4 (⟨s',v,hr,rfl,⟨rfl,hs'⟩,hch'⟩ | ⟨f,b,hr,rfl,hfb,hle,hch'⟩)
     ·have HR:=zH hr
      have HS':=zH hs'
      have HC':=zH hch'
      clear hr hs' hch'
      go_wp2_with fail
      go_end0
      exact .inl ⟨_,_,hf1.out.trans HR.out,rfl,⟨rfl,HS'.out⟩,(HC1.out.drewN _).trans HC'.out⟩
     ·exact⟨rfl,.inr ⟨_,_,hf1.out.trans hr,rfl,hfb,Nat.le_trans HC1.out.size hle,(HC1.out.drewN _).trans hch'⟩⟩
   ·have hf1:=zH (show zam t s=ze4 t j s.sign by unfold zam;simp only[hend.out];rw[if_neg (by omega),if_pos hsm])
    go_wp2_with (first | (go_at_call 238;refine(zie _ _).mono ?_;rintro e w' ⟨rfl,rfl⟩) | (go_at_call 239;refine(ze7 _ _).mono ?_;rintro e w' ⟨rfl,rfl⟩))
    refine(name_any B _ sb t j s.sign hB hlt ht ((Blk.drewN H1.out _).cast (by simp))).mono ?_
    rintro e w4 (⟨s',v,hr,rfl,⟨rfl,hs'⟩,hch'⟩ | ⟨f,b,hr,rfl,hfb,hle,hch'⟩)
    ·have HR:=zH hr
     have HS':=zH hs'
     have HC':=zH hch'
     clear hr hs' hch'
     go_wp2_with fail
     go_end0
     exact .inl ⟨_,_,hf1.out.trans HR.out,rfl,⟨rfl,HS'.out⟩,(HC1.out.drewN _).trans HC'.out⟩
    ·exact⟨rfl,.inr ⟨_,_,hf1.out.trans hr,rfl,hfb,Nat.le_trans HC1.out.size hle,(HC1.out.drewN _).trans hch'⟩⟩
  ·have hend:=zH (E.out.trans hst)
   have hjs:t.size=j:=by omega
   have hf1:=zH (show zam t s=.ok { at_:=j,kind:=0,tok:={ at_:=j },sign:=s.sign } by unfold zam;simp only[hend.out];rw[if_pos (by omega)])
   have hnsz:((j:Int)==(t.size:Int))=true:=by rw[beq_iff_eq];omega
   have HZ:=zH hnsz
   have hdec:decide (j<t.size)=false:=by rw[decide_eq_false_iff_not];omega
   clear hst hjs hnsz
   go_wp2_with fail
   go_quiet (fail)
   clear hdec
   have hnsz:=HZ.out
   go_wp2_with fail
   refine zbi (fun w1=>ScAt w1 sb t { at_:=j,kind:=0,tok:={ at_:=j },sign:=s.sign }∧Chg B [] [sb] w w1) ⟨?_,?_⟩ ?_
   ·exact((((((Blk.drewN HS.out _).set_ _ _).set_ _ _).set_ _ _).set_ _ _).set_ _ _).cast (by simp;rfl)
   ·exact(((((HC.out.drewN _).setX hB (by simp) _).setX hB (by simp) _).setX hB (by simp) _).setX hB (by simp) _).setX hB (by simp) _
   rintro w1 ⟨h1,hch1⟩
   clear hcr hfr HS HC
   have hc1:=Blk.cell h1
   have H1:=zH h1
   have HC1:=zH hch1
   clear h1 hch1
   go_quiet (fail)
   go_wp2_with fail
   refine bodyPost_ret (results_none rfl _ _ _) rfl ?_
   exact .inl ⟨_,_,hf1.out,rfl,⟨rfl,H1.out⟩,HC1.out.drewN _⟩
theorem want_any (B:Nat)(w:World)(sb:Nat)(t:ByteArray)(s:Sc)(c:UInt8)(hB:B≤sb)(hat:s.at_≤t.size)(ht:t.size≤700)(h:ScAt w sb t s) :
  Calls Tryz.prog 245 #[.pointer (some ⟨sb,0,none⟩),.int .u8 c.toNat] w (Post B [] [sb] w (za9 t s c) (fun s' v w'=>v=.tuple #[]∧ScAt w' sb t s')):=by
 have hc:=Blk.cell h
 have H:=zH h
 clear h
 cases his:isM s c
 ·have hf1:=zH (show za9 t s c=.error ⟨5,s.tok.at_⟩ by unfold za9;rw[his];rfl)
  go_enter Tryz.func245,Tryz.ntmps245
  go_wp2_with (first | (go_at_call 291;refine(zns c _ sb t s H.out).mono ?_;rintro e w' ⟨rfl,rfl⟩) | (go_at_call 157;refine(zfb _ _ _).mono ?_;rintro e w4 ⟨rfl,rfl⟩))
  exact⟨rfl,.inr ⟨_,_,hf1.out,rfl,za1.new (by simp),Nat.le_refl _,(Chg.refl _ _ _ _).alloc _⟩⟩
 ·have hf1:=zH (show za9 t s c=zam t s by unfold za9;rw[his];rfl)
  go_enter Tryz.func245,Tryz.ntmps245
  go_wp2_with (first | (go_at_call 291;refine(zns c _ sb t s H.out).mono ?_;rintro e w' ⟨rfl,rfl⟩))
  refine(zk4 B _ sb t s hB hat ht H.out).mono ?_
  rintro e w4 (⟨s',v,hr,rfl,⟨rfl,hs'⟩,hch'⟩ | ⟨f,b,hr,rfl,hfb,hle,hch'⟩)
  ·have HR:=zH hr
   have HS':=zH hs'
   have HC':=zH hch'
   clear hr hs' hch'
   go_wp2_with fail
   go_end0
   exact .inl ⟨_,_,hf1.out.trans HR.out,rfl,⟨rfl,HS'.out⟩,HC'.out⟩
  ·exact⟨rfl,.inr ⟨_,_,hf1.out.trans hr,rfl,hfb,hle,hch'⟩⟩
def zaq (n:Nm):Value:=.agg #[.string n.text,.int .i64 n.at_,.bool n.num,.int .i64 n.n]
theorem zai {a b:Int}(h:a≠b):(a==b)=false:=beq_eq_false_iff_ne.2 h
theorem ztx (B:Nat)(w:World)(sb:Nat)(t:ByteArray)(s:Sc)(hB:B≤sb)(hat:s.at_≤t.size)(ht:t.size≤700)(h:ScAt w sb t s) :
  Calls Tryz.prog 244 #[.pointer (some ⟨sb,0,none⟩)] w (Post B [] [sb] w (zdh t s) (fun p v w'=>v=zaq p.1∧ScAt w' sb t p.2)):=by
 have hc:=Blk.cell h
 have H:=zH h
 have hlt:=Blk.lt h
 clear h
 by_cases hk:s.kind=1
 ·have hf1:=zH (show zdh t s=(zam t s).map fun s'=>(s.tok,s') by unfold zdh;rw[if_pos hk])
  have hk':(s.kind:Int)=1:=by omega
  all_goals
   clear hk
   go_enter Tryz.func244,Tryz.ntmps244
   go_wp2_with fail
   refine(zk4 B _ sb t s hB hat ht (Blk.alloc (Blk.alloc H.out _) _)).mono ?_
   rintro e w4 (⟨s',v,hr,rfl,⟨rfl,hs'⟩,hch'⟩ | ⟨f,b,hr,rfl,hfb,hle,hch'⟩)
   ·have hn:=Blk.chg (g:=w.heap.size+1) (Blk.newAt (by simp)) hch' (by simp) (by simp;omega)
    have hr0:=Blk.chg (g:=w.heap.size) (Blk.alloc (Blk.newAt rfl) _) hch' (by simp) (by simp;omega)
    have hcn:=Blk.cell hn
    have hc0:=Blk.cell hr0
    have hf0:=Blk.frozen hr0
    have HR:=zH hr
    have HS':=zH hs'
    have HC':=zH (show Chg B [] [sb] w w4 from(((Chg.refl _ _ _ _).alloc _).alloc _).trans hch')
    clear hr hs' hch' hc hn hr0
    go_wp2_with fail
    refine bodyPost_end (v:=zaq s.tok) (by simp[results,Tryz.results244,go_sem,zaq,hc0]) rfl ?_
    refine .inl ⟨_,_,hf1.out.trans (by rw[HR.out];rfl),rfl,⟨rfl,?_⟩,?_⟩
    ·exact((((Blk.far HS'.out (by simp;omega) _).far (by simp;omega) _).far (by simp;omega) _).far (by simp;omega) _)
    ·exact(((HC'.out.setNew (by simp) _).setNew (by simp) _).setNew (by simp) _).setNew (by simp) _
   ·exact⟨rfl,.inr ⟨_,_,hf1.out.trans (by rw[hr];rfl),rfl,hfb,Nat.le_trans (((Chg.refl B [] [] w).alloc _).alloc _).size hle,(((Chg.refl _ _ _ _).alloc _).alloc _).trans hch'⟩⟩
 ·have hf1:=zH (show zdh t s=.error ⟨5,s.tok.at_⟩ by unfold zdh;rw[if_neg hk])
  have hk':((s.kind:Int)==1)=false:=zai (by omega)
  clear hk
  go_enter Tryz.func244,Tryz.ntmps244
  go_wp2_with (go_at_call 157;refine(zfb _ _ _).mono ?_;rintro e w4 ⟨rfl,rfl⟩)
  exact⟨rfl,.inr ⟨_,_,hf1.out,rfl,za1.new (by simp),(by omega),(((Chg.refl _ _ _ _).alloc _).alloc _).alloc _⟩⟩
theorem kind12 {k:Nat}(h:k=1∨k=2):(k:Int)=1∨((k:Int)==1)=false∧(k:Int)=2:=by
 rcases h with h | h <;> subst h <;> simp
theorem kindNot {k:Nat}(h:¬ (k=1∨k=2)):((k:Int)==1)=false∧((k:Int)==2)=false∧((k:Int) != 1)=true∧((k:Int) != 2)=true:=⟨zai (by omega),zai (by omega),bne_iff_ne.2 (by omega),bne_iff_ne.2 (by omega)⟩
theorem atom_any (B:Nat)(w:World)(sb:Nat)(t:ByteArray)(s:Sc)(hB:B≤sb)(hat:s.at_≤t.size)(ht:t.size≤700)(h:ScAt w sb t s) :
  Calls Tryz.prog 292 #[.pointer (some ⟨sb,0,none⟩)] w (Post B [] [sb] w (zco t s) (fun p v w'=>v=zaq p.1∧ScAt w' sb t p.2)):=by
 have hc:=Blk.cell h
 have H:=zH h
 have hlt:=Blk.lt h
 clear h
 by_cases hk:s.kind=1∨s.kind=2
 ·have hf1:=zH (show zco t s=(zam t s).map fun s'=>(s.tok,s') by unfold zco;rw[if_pos hk])
  rcases kind12 hk with hk1 | ⟨hk1,hk2⟩
  all_goals
   clear hk
   go_enter Tryz.func292,Tryz.ntmps292
   go_wp2_with fail
   refine(zk4 B _ sb t s hB hat ht (Blk.alloc (Blk.alloc H.out _) _)).mono ?_
   rintro e w4 (⟨s',v,hr,rfl,⟨rfl,hs'⟩,hch'⟩ | ⟨f,b,hr,rfl,hfb,hle,hch'⟩)
   ·have hn:=Blk.chg (g:=w.heap.size+1) (Blk.newAt (by simp)) hch' (by simp) (by simp;omega)
    have hr0:=Blk.chg (g:=w.heap.size) (Blk.alloc (Blk.newAt rfl) _) hch' (by simp) (by simp;omega)
    have hcn:=Blk.cell hn
    have hc0:=Blk.cell hr0
    have hf0:=Blk.frozen hr0
    have HR:=zH hr
    have HS':=zH hs'
    have HC':=zH (show Chg B [] [sb] w w4 from(((Chg.refl _ _ _ _).alloc _).alloc _).trans hch')
    clear hr hs' hch' hc hn hr0
    go_wp2_with fail
    refine bodyPost_end (v:=zaq s.tok) (by simp[results,Tryz.results292,go_sem,zaq,hc0]) rfl ?_
    refine .inl ⟨_,_,hf1.out.trans (by rw[HR.out];rfl),rfl,⟨rfl,?_⟩,?_⟩
    ·exact((((Blk.far HS'.out (by simp;omega) _).far (by simp;omega) _).far (by simp;omega) _).far (by simp;omega) _)
    ·exact(((HC'.out.setNew (by simp) _).setNew (by simp) _).setNew (by simp) _).setNew (by simp) _
   ·exact⟨rfl,.inr ⟨_,_,hf1.out.trans (by rw[hr];rfl),rfl,hfb,Nat.le_trans (((Chg.refl B [] [] w).alloc _).alloc _).size hle,(((Chg.refl _ _ _ _).alloc _).alloc _).trans hch'⟩⟩
 ·have hf1:=zH (show zco t s=.error ⟨5,s.tok.at_⟩ by unfold zco;rw[if_neg hk])
  obtain⟨hk1,hk2,hk3,hk4⟩:=kindNot hk
  clear hk
  go_enter Tryz.func292,Tryz.ntmps292
  go_wp2_with (go_at_call 157;refine(zfb _ _ _).mono ?_;rintro e w4 ⟨rfl,rfl⟩)
  exact⟨rfl,.inr ⟨_,_,hf1.out,rfl,za1.new (by simp),(by omega),(((Chg.refl _ _ _ _).alloc _).alloc _).alloc _⟩⟩
end
section
def zab {α β : Type}(r:Except Flt α)(f:α → Except Flt β):Except Flt β :=
 match r with
 | .ok a=>f a
 | .error e=>.error e
theorem zae {α β : Type}(a:α)(f:α → Except Flt β):zab (.ok a) f=f a:=rfl
theorem zc1 {α β : Type}(e:Flt)(f:α → Except Flt β):zab (.error e) f=.error e:=rfl
theorem zig {α β γ : Type}(r:Except Flt α)(f:α → Except Flt β)(g:β → Except Flt γ):zab (zab r f) g=zab r (fun a=>zab (f a) g):=by
 cases r <;> rfl
structure Stm where
 op:Nat:=0
 at_:Nat:=0
 mark:Nat:=0
 x:Nm:={}
 y:Nm:={}
 z:Nm:={}
 f:Nm:={}
 args:List Nm:=[]
 bin:Nat:=0
 field:Nat:=0
 has:Bool:=false
 body:List Nat:=[]
 els:List Nat:=[]
structure Dcl where
 kind:UInt8
 name:Nm
 params:List Nm:=[]
 body:List Nat:=[]
def zex (atoms:Bool)(t:ByteArray)(s:Sc):Except Flt (Nm×Sc):=if atoms then zco t s else zdh t s
def zcg (atoms:Bool)(t:ByteArray):Nat→Sc→Except Flt (List Nm×Sc)
 | 0,_=>.error ⟨99,0⟩
 | n+1,s=>zab (zex atoms t s) fun p =>
  if isM p.2 41 then .ok ([p.1],p.2)else
  zab (za9 t p.2 44) fun s2=>zab (zcg atoms t n s2) fun q=>.ok (p.1::q.1,q.2)
def zdv (atoms:Bool)(t:ByteArray)(s:Sc):Except Flt (List Nm×Sc) :=
 zab (if isM s 41 then .ok ([],s)else zcg atoms t (t.size+1) s) fun p=>zab (za9 t p.2 41) fun s2=>.ok (p.1,s2)
def bytes (l:List UInt8):ByteArray:=⟨l.toArray⟩
def wL:ByteArray:=bytes [108]
def wR:ByteArray:=bytes [114]
def zg7:ByteArray:=bytes [108,111,99,107]
def zgb:ByteArray:=bytes [117,110,108,111,99,107]
def zf6:ByteArray:=bytes [106,111,105,110]
def zgv:ByteArray:=bytes [114,101,116,117,114,110]
def wIf:ByteArray:=bytes [105,102]
def zgk:ByteArray:=bytes [119,104,105,108,101]
def wGo:ByteArray:=bytes [103,111]
def wElse:ByteArray:=bytes [101,108,115,101]
def wNew:ByteArray:=bytes [110,101,119]
def wVar:ByteArray:=bytes [118,97,114]
def zf1:ByteArray:=bytes [109,117,116,101,120]
def zga:ByteArray:=bytes [102,117,110,99]
def zfz (t:ByteArray)(s:Sc):Except Flt (Nat×Sc) :=
 zab (zdh t s) fun p=>if eqB p.1.text wL then .ok (0,p.2)else if eqB p.1.text wR then .ok (1,p.2)else .error ⟨5,p.1.at_⟩
def zg4 (t:ByteArray)(s:Sc)(x:Stm):Except Flt (Stm×Sc) :=
 zab (zdh t s) fun p=>zab (za9 t p.2 40) fun s2=>zab (zdv true t s2) fun q=>.ok ({ x with f:=p.1,args:=q.1 },q.2)
def zbw (t:ByteArray)(s:Sc)(x:Stm):Except Flt (Stm×Sc) :=
 let b:=if s.kind=3 then(if s.sign=43 then 1 else if s.sign=45 then 2 else if s.sign=60 then 3 else if s.sign=101 then 4 else 0)else 0
 if b=0 then .ok (x,s)else zab (zam t s) fun s1=>zab (zco t s1) fun p=>.ok ({ x with bin:=b,z:=p.1 },p.2)
def zb9 (t:ByteArray)(s:Sc)(x:Stm):Except Flt (Stm×Sc) :=
 let x:={ x with mark:=s.tok.at_ }
 if za5 s wNew then zab (zam t s) fun s1=>.ok ({ x with op:=6 },s1)else
 if za5 s wGo then zab (zam t s) fun s1=>zg4 t s1 { x with op:=7 } else
 zab (zco t s) fun p =>
 if isM p.2 40∧s.kind≠2 then zab (zam t p.2) fun s1=>zab (zdv true t s1) fun q=>.ok ({ x with op:=11,f:=p.1,args:=q.1 },q.2)else
 if isM p.2 46∧s.kind≠2 then zab (zam t p.2) fun s1=>zab (zfz t s1) fun q=>.ok ({ x with op:=4,y:=p.1,field:=q.1 },q.2)else
 zbw t p.2 { x with op:=1,y:=p.1 }
def zeb (t:ByteArray)(s:Sc)(x:Stm):Except Flt (Stm×Sc) :=
 zab (zdh t s) fun p =>
 zab (if isM p.2 40 then zab (zam t p.2) fun s1=>zab (zdv true t s1) fun q=>.ok ({ x with op:=11,f:=p.1,args:=q.1 },q.2)
  else if isM p.2 46 then zab (zam t p.2) fun s1=>zab (zfz t s1) fun q=>zab (za9 t q.2 61) fun s3=>zab (zco t s3) fun r=>.ok ({ x with op:=5,x:=p.1,field:=q.1,y:=r.1 },r.2)
  else zab (za9 t p.2 61) fun s1=>zb9 t s1 { x with x:=p.1 }) fun r =>
 zab (za9 t r.2 59) fun s2=>.ok (r.1,s2)
def zdy (stmt:Sc→Nat→Except Flt (List Stm×Sc)):Nat→Sc→Nat→Except Flt ((List Nat×List Stm)×Sc)
 | 0,_,_=>.error ⟨99,0⟩
 | n+1,s,k=>if isM s 125 then .ok (([],[]),s)else
  zab (stmt s k) fun p=>zab (zdy stmt n p.2 (k+p.1.length)) fun q=>.ok ((k::q.1.1,p.1++q.1.2),q.2)
def zdz (t:ByteArray)(stmt:Sc→Nat→Except Flt (List Stm×Sc))(depth:Nat)(s:Sc)(k:Nat):Except Flt ((List Nat×List Stm)×Sc) :=
 if isM s 123∧6<depth then .error ⟨6,s.tok.at_⟩else
 zab (za9 t s 123) fun s1=>zab (zdy stmt (t.size+1) s1 k) fun p=>zab (za9 t p.2 125) fun s2=>.ok (p.1,s2)
def zht (t:ByteArray)(block:Sc→Nat→Except Flt ((List Nat×List Stm)×Sc))(isWhile:Bool)(s:Sc)(k:Nat)(x:Stm):Except Flt (List Stm×Sc) :=
 zab (zco t s) fun p=>zab (block p.2 (k+1)) fun b =>
 if isWhile then .ok ({ x with op:=14,y:=p.1,body:=b.1.1 }::b.1.2,b.2)else
 if za5 b.2 wElse then zab (zam t b.2) fun s1=>zab (block s1 (k+1+b.1.2.length)) fun c =>
  .ok ({ x with op:=13,y:=p.1,body:=b.1.1,has:=true,els:=c.1.1 }::(b.1.2++c.1.2),c.2)
 else .ok ({ x with op:=13,y:=p.1,body:=b.1.1 }::b.1.2,b.2)
def zbk (t:ByteArray)(block:Sc→Nat→Except Flt ((List Nat×List Stm)×Sc))(s:Sc)(k:Nat)(x:Stm):Except Flt (List Stm×Sc) :=
 let w:=s.tok.text
 if eqB w zg7||eqB w zgb||eqB w zf6 then
  zab (zam t s) fun s1=>zab (zdh t s1) fun p=>zab (za9 t p.2 59) fun s2 =>
  .ok ([{ x with op:=if eqB w zf6 then 8 else if eqB w zgb then 10 else 9,y:=p.1 }],s2)
 else if eqB w zgv then
  zab (zam t s) fun s1=>if isM s1 59 then zab (za9 t s1 59) fun s2=>.ok ([{ x with op:=12 }],s2)
   else zab (zco t s1) fun p=>zab (za9 t p.2 59) fun s2=>.ok ([{ x with op:=12,has:=true,y:=p.1 }],s2)
 else if eqB w wIf||eqB w zgk then zab (zam t s) fun s1=>zht t block (eqB w zgk) s1 k x
 else if eqB w wGo then zab (zam t s) fun s1=>zab (zg4 t s1 { x with op:=7,mark:=s.tok.at_ }) fun p=>zab (za9 t p.2 59) fun s2=>.ok ([p.1],s2)
 else .error ⟨5,s.tok.at_⟩
def zbh (t:ByteArray):Nat→Nat→Sc→Nat→Except Flt (List Stm×Sc)
 | 0,_,_,_=>.error ⟨99,0⟩
 | lvl+1,depth,s,k =>
  if s.kind=4 then zbk t (zdz t (zbh t lvl (depth+1)) (depth+1)) s k { at_:=s.tok.at_ }
  else zab (zeb t s { at_:=s.tok.at_ }) fun p=>.ok ([p.1],p.2)
def zd9 (t:ByteArray)(s:Sc)(k:Nat):Except Flt ((Dcl×List Stm)×Sc) :=
 if za5 s wVar||za5 s zf1 then
  zab (zam t s) fun s1=>zab (zdh t s1) fun p=>zab (za9 t p.2 59) fun s2=>.ok (({ kind:=if za5 s zf1 then 109 else 118,name:=p.1 },[]),s2)
 else if za5 s zga then
  zab (zam t s) fun s1=>zab (zdh t s1) fun p=>zab (za9 t p.2 40) fun s2=>zab (zdv false t s2) fun q =>
  zab (zdz t (zbh t 6 1) 1 q.2 k) fun b=>.ok (({ kind:=102,name:=p.1,params:=q.1,body:=b.1.1 },b.1.2),b.2)
 else .error ⟨5,s.tok.at_⟩
def zdi (t:ByteArray):Nat→Sc→Nat→Except Flt (List Dcl×List Stm)
 | 0,_,_=>.error ⟨99,0⟩
 | n+1,s,k=>if s.kind=0 then .ok ([],[])else
  zab (zd9 t s k) fun p=>zab (zdi t n p.2 (k+p.1.2.length)) fun q=>.ok (p.1.1::q.1,p.1.2++q.2)
def zd8 (t:ByteArray):Except Flt (List Dcl×List Stm) :=
 if 700<t.size then .error ⟨1,0⟩else
 zab (zam t { at_:=0,kind:=0,tok:={},sign:=0 }) fun s=>zdi t (t.size+1) s 0
end
section
open Go.RowKit
structure PC where
 B:Nat
 pb:Nat
 sb:Nat
 tb:Nat
 t:ByteArray
 rb:Nat
structure Env (C:PC)(w:World)(s:Sc):Prop where
 p:Blk w C.pb 321 #[.pointer (some ⟨C.sb,0,none⟩),.pointer (some ⟨C.tb,0,none⟩)]
 sc:ScAt w C.sb C.t s
 at_:s.at_≤C.t.size
 tsz:C.t.size≤700
 bs:C.B≤C.sb
 bt:C.B≤C.tb
section
variable {C:PC} {w w1:World} {s s1:Sc} {ts:List TypeId} {xs:List Nat}
theorem Env.pne (E:Env C w s):C.pb≠C.sb:=E.p.ne_ E.sc (by decide)
theorem Env.of (E:Env C w s)(hc:Chg C.B ts xs w w1)(hp:321 ∉ ts)(hpx:C.pb ∉ xs)(hs:ScAt w1 C.sb C.t s1)(ha:s1.at_≤C.t.size):Env C w1 s1 :=
 ⟨E.p.chg hc hp hpx,hs,ha,E.tsz,E.bs,E.bt⟩
theorem Env.keep (E:Env C w s)(hc:Chg C.B ts xs w w1)(hp:321 ∉ ts)(hs:319 ∉ ts)(hpx:C.pb ∉ xs)(hsx:C.sb ∉ xs):Env C w1 s :=
 ⟨E.p.chg hc hp hpx,Blk.chg E.sc hc hs hsx,E.at_,E.tsz,E.bs,E.bt⟩
theorem Env.alloc (E:Env C w s)(o:Obj):Env C (w.alloc o) s:=⟨E.p.alloc o,Blk.alloc E.sc o,E.at_,E.tsz,E.bs,E.bt⟩
theorem Env.far (E:Env C w s){p:Addr}(hp:C.pb≠p.block)(hs:C.sb≠p.block)(u:Value):Env C (w.setCell p u) s:=⟨E.p.far hp u,Blk.far E.sc hs u,E.at_,E.tsz,E.bs,E.bt⟩
theorem Env.below {N:Nat}(E:Env C w s)(h:Below N w w1)(hp:C.pb<N)(hs:C.sb<N):Env C w1 s:=⟨E.p.below h hp,Blk.below E.sc h hs,E.at_,E.tsz,E.bs,E.bt⟩
theorem Env.append {B:Nat}{e:TypeId}{size:Nat}{v:Value}{n:Nat}{ys:List Value}(E:Env C w s)(hown:w.ownsRow B e size v n ys)(h:w.grownBy w1 v.ownBlock)(hp:e≠321)(hs:e≠319):Env C w1 s :=
 ⟨E.p.append hown h hp,Blk.append E.sc hown h hs,E.at_,E.tsz,E.bs,E.bt⟩
theorem Env.drew (E:Env C w s):Env C w.drew s:=⟨E.p,E.sc,E.at_,E.tsz,E.bs,E.bt⟩
theorem Env.drewN (E:Env C w s)(n:Nat):Env C (w.drewN n) s:=⟨E.p,E.sc,E.at_,E.tsz,E.bs,E.bt⟩
theorem Env.farT (E:Env C w s){g:Nat}{t:TypeId}{cs:Array Value}(h:Blk w g t cs)(hp:t≠321)(hs:t≠319)(i:Nat)(u:Value):Env C (w.setCell ⟨g,i,none⟩ u) s :=
 E.far (E.p.ne_ h (fun e=>hp e.symm)) (Blk.ne_ E.sc h (fun e=>hs e.symm)) u
end
theorem zhq {t:ByteArray}{s s':Sc}{c:UInt8}(h:za9 t s c=.ok s'):isM s c=true∧zam t s=.ok s':=by
 unfold za9 at h
 split at h
 ·rename_i h1;exact⟨h1,h⟩
 ·cases h
theorem map_ok {α β : Type}{r:Except Flt α}{f:α → β}{b:β}(h:r.map f=.ok b):∃ a,r=.ok a∧f a=b:=by
 cases r with
 | error e=>cases h
 | ok a=>exact⟨a,rfl,by injection h⟩
theorem zf3 {t:ByteArray}{s:Sc}{p:Nm×Sc}(h:zdh t s=.ok p):s.kind=1∧zam t s=.ok p.2∧p.1=s.tok:=by
 unfold zdh at h
 split at h
 ·rename_i h1
  obtain⟨a,h2,rfl⟩:=map_ok h
  exact⟨h1,h2,rfl⟩
 ·cases h
theorem zh5 {t:ByteArray}{s:Sc}{p:Nm×Sc}(h:zco t s=.ok p):(s.kind=1∨s.kind=2)∧zam t s=.ok p.2∧p.1=s.tok:=by
 unfold zco at h
 split at h
 ·rename_i h1
  obtain⟨a,h2,rfl⟩:=map_ok h
  exact⟨h1,h2,rfl⟩
 ·cases h
section
variable {C:PC} {w:World} {s:Sc}
theorem zck (E:Env C w s):Calls Tryz.prog 158 #[.pointer (some ⟨C.sb,0,none⟩)] w (Post C.B [] [C.sb] w (zam C.t s) (fun s' v w'=>v=.tuple #[]∧Env C w' s')) :=
 (zk4 C.B w C.sb C.t s E.bs E.at_ E.tsz E.sc).mono fun e w' h=>by
  rcases h with⟨s',v,hr,he,⟨hv,hs⟩,hc⟩ | h
  ·exact .inl ⟨s',v,hr,he,⟨hv,E.of hc (by simp) (by simpa using E.pne) hs (zgd hr E.at_).1⟩,hc⟩
  ·exact .inr h
theorem zcu (E:Env C w s)(c:UInt8):Calls Tryz.prog 245 #[.pointer (some ⟨C.sb,0,none⟩),.int .u8 c.toNat] w (Post C.B [] [C.sb] w (za9 C.t s c) (fun s' v w'=>v=.tuple #[]∧Env C w' s')) :=
 (want_any C.B w C.sb C.t s c E.bs E.at_ E.tsz E.sc).mono fun e w' h=>by
  rcases h with⟨s',v,hr,he,⟨hv,hs⟩,hc⟩ | h
  ·exact .inl ⟨s',v,hr,he,⟨hv,E.of hc (by simp) (by simpa using E.pne) hs (zgd (zhq hr).2 E.at_).1⟩,hc⟩
  ·exact .inr h
theorem zf8 (E:Env C w s):Calls Tryz.prog 244 #[.pointer (some ⟨C.sb,0,none⟩)] w (Post C.B [] [C.sb] w (zdh C.t s) (fun p v w'=>v=zaq p.1∧Env C w' p.2)) :=
 (ztx C.B w C.sb C.t s E.bs E.at_ E.tsz E.sc).mono fun e w' h=>by
  rcases h with⟨s',v,hr,he,⟨hv,hs⟩,hc⟩ | h
  ·exact .inl ⟨s',v,hr,he,⟨hv,E.of hc (by simp) (by simpa using E.pne) hs (zgd (zf3 hr).2.1 E.at_).1⟩,hc⟩
  ·exact .inr h
theorem zgt (E:Env C w s):Calls Tryz.prog 292 #[.pointer (some ⟨C.sb,0,none⟩)] w (Post C.B [] [C.sb] w (zco C.t s) (fun p v w'=>v=zaq p.1∧Env C w' p.2)) :=
 (atom_any C.B w C.sb C.t s E.bs E.at_ E.tsz E.sc).mono fun e w' h=>by
  rcases h with⟨s',v,hr,he,⟨hv,hs⟩,hc⟩ | h
  ·exact .inl ⟨s',v,hr,he,⟨hv,E.of hc (by simp) (by simpa using E.pne) hs (zgd (zh5 hr).2.1 E.at_).1⟩,hc⟩
  ·exact .inr h
theorem zbc (E:Env C w s)(c:UInt8):Calls Tryz.prog 291 #[.pointer (some ⟨C.sb,0,none⟩),.int .u8 c.toNat] w fun e w'=>e=.returned (.bool (isM s c))∧w=w':=zns c w C.sb C.t s E.sc
theorem zc4 (E:Env C w s)(x:ByteArray):Calls Tryz.prog 243 #[.pointer (some ⟨C.sb,0,none⟩),.string x] w fun e w'=>e=.returned (.bool (za5 s x))∧w=w':=zu2 x w C.sb C.t s E.sc
end
def zdx (n:Nm):List Value:=[.string n.text,.int .i64 n.at_,.bool n.num,.int .i64 n.n]
def zbs (w:World)(B:Nat)(v:Value)(l:List Nm):Prop:=w.ownsRow B 220 4 v l.length (l.flatMap zdx)
theorem zw5:(Tryz.prog.info? 220).map (fun i=>(i.zero,i.size,i.bytes))=some (some (.agg #[.string ByteArray.empty,.int .i64 0,.bool false,.int .i64 0]),4,40):=by kernel_rfl
end
section
theorem zac {α β : Type}{r:Except Flt α}{f:α → Except Flt β}{b:β}(h:zab r f=.ok b):∃ a,r=.ok a∧f a=.ok b:=by
 cases r with
 | ok a=>exact⟨a,rfl,h⟩
 | error e=>cases h
theorem zcv {t:ByteArray}{s s':Sc}(h:zam t s=.ok s')(hs:s.at_≤t.size):s'.at_≤t.size∧s.at_≤s'.at_:=⟨(zgd h hs).1,(zgd h hs).2.1⟩
theorem zd0 {t:ByteArray}{s s':Sc}{c:UInt8}(h:za9 t s c=.ok s')(hs:s.at_≤t.size):s'.at_≤t.size∧s.at_≤s'.at_:=zcv (zhq h).2 hs
theorem zhb {t:ByteArray}{s:Sc}{p:Nm×Sc}(h:zdh t s=.ok p)(hs:s.at_≤t.size):p.2.at_≤t.size∧s.at_≤p.2.at_:=zcv (zf3 h).2.1 hs
theorem ziz {t:ByteArray}{s:Sc}{p:Nm×Sc}(h:zco t s=.ok p)(hs:s.at_≤t.size):p.2.at_≤t.size∧s.at_≤p.2.at_:=zcv (zh5 h).2.1 hs
theorem zkr {s:Sc}{c:UInt8}(h:isM s c=true):s.kind≠0:=by
 unfold isM at h
 simp only[Bool.and_eq_true,beq_iff_eq]at h
 omega
theorem zfp {t:ByteArray}{s s':Sc}(h:zam t s=.ok s')(hs:s.at_≤t.size)(hk:s'.kind≠0):s.at_<s'.at_:=(zgd h hs).2.2 hk
theorem itemM_le {a:Bool}{t:ByteArray}{s:Sc}{p:Nm×Sc}(h:zex a t s=.ok p)(hs:s.at_≤t.size):p.2.at_≤t.size∧s.at_≤p.2.at_:=by
 unfold zex at h
 split at h
 ·exact ziz h hs
 ·exact zhb h hs
theorem zpr {a:Bool}{t:ByteArray}:∀ (n:Nat) {s:Sc} {p:List Nm×Sc},zcg a t n s=.ok p→s.at_≤t.size→p.2.at_≤t.size∧s.at_≤p.2.at_
 | 0,s,p,h,hs=>by simp[zcg]at h
 | n+1,s,p,h,hs=>by
  rw[zcg]at h
  obtain⟨q,h1,h2⟩:=zac h
  have b1:=itemM_le h1 hs
  split at h2
  ·injection h2 with h2;subst h2;exact b1
  ·obtain⟨s2,h3,h4⟩:=zac h2
   have b2:=zd0 h3 b1.1
   obtain⟨r,h5,h6⟩:=zac h4
   have b3:=zpr n h5 b2.1
   injection h6 with h6;subst h6
   exact⟨b3.1,by show _≤r.2.at_;omega⟩
theorem zkl {a:Bool}{t:ByteArray}{s:Sc}{p:List Nm×Sc}(h:zdv a t s=.ok p)(hs:s.at_≤t.size):p.2.at_≤t.size∧s.at_≤p.2.at_:=by
 unfold zdv at h
 obtain⟨q,h1,h2⟩:=zac h
 obtain⟨s2,h3,h4⟩:=zac h2
 injection h4 with h4;subst h4
 have b1:q.2.at_≤t.size∧s.at_≤q.2.at_:=by
  split at h1
  ·injection h1 with h1;subst h1;exact⟨hs,Nat.le_refl _⟩
  ·exact zpr _ h1 hs
 have b2:=zd0 h3 b1.1
 exact⟨b2.1,by show _≤s2.at_;omega⟩
theorem zq1 {t:ByteArray}{s:Sc}{x:Stm}{p:Stm×Sc}(h:zg4 t s x=.ok p)(hs:s.at_≤t.size):s.kind≠0∧p.2.at_≤t.size∧s.at_≤p.2.at_:=by
 unfold zg4 at h
 obtain⟨q,h1,h2⟩:=zac h
 obtain⟨s2,h3,h4⟩:=zac h2
 obtain⟨r,h5,h6⟩:=zac h4
 injection h6 with h6;subst h6
 have b1:=zhb h1 hs
 have b2:=zd0 h3 b1.1
 have b3:=zkl h5 b2.1
 have:=(zf3 h1).1
 exact⟨by omega,b3.1,by show _≤r.2.at_;omega⟩
theorem zqm {t:ByteArray}{s:Sc}{p:Nat×Sc}(h:zfz t s=.ok p)(hs:s.at_≤t.size):p.2.at_≤t.size∧s.at_≤p.2.at_:=by
 unfold zfz at h
 obtain⟨q,h1,h2⟩:=zac h
 have b1:=zhb h1 hs
 split at h2
 ·injection h2 with h2;subst h2;exact b1
 ·split at h2
  ·injection h2 with h2;subst h2;exact b1
  ·cases h2
theorem zti {t:ByteArray}{s:Sc}{x:Stm}{p:Stm×Sc}(h:zbw t s x=.ok p)(hs:s.at_≤t.size):p.2.at_≤t.size∧s.at_≤p.2.at_:=by
 unfold zbw at h
 simp only at h
 split at h
 all_goals try split at h
 all_goals try split at h
 all_goals try split at h
 all_goals try split at h
 all_goals try split at h
 all_goals first
  | (injection h with h;subst h;exact⟨hs,Nat.le_refl _⟩)
  | (obtain⟨s1,h1,h2⟩:=zac h;obtain⟨q,h3,h4⟩:=zac h2;injection h4 with h4;subst h4;have b1:=zcv h1 hs;have b2:=ziz h3 b1.1;exact⟨b2.1,by show _≤q.2.at_;omega⟩)
  | (exfalso;simp_all;done)
theorem zwk {t:ByteArray}{s:Sc}{x:Stm}{p:Stm×Sc}(h:zb9 t s x=.ok p)(hs:s.at_≤t.size):p.2.at_≤t.size∧s.at_≤p.2.at_:=by
 unfold zb9 at h
 simp only at h
 split at h
 ·obtain⟨s1,h1,h2⟩:=zac h
  injection h2 with h2;subst h2
  exact zcv h1 hs
 ·split at h
  ·obtain⟨s1,h1,h2⟩:=zac h
   have b1:=zcv h1 hs
   have b2:=zq1 h2 b1.1
   exact⟨b2.2.1,by omega⟩
  ·obtain⟨q,h1,h2⟩:=zac h
   have b1:=ziz h1 hs
   split at h2
   ·obtain⟨s1,h3,h4⟩:=zac h2
    obtain⟨r,h5,h6⟩:=zac h4
    injection h6 with h6;subst h6
    have b2:=zcv h3 b1.1
    have b3:=zkl h5 b2.1
    exact⟨b3.1,by show _≤r.2.at_;omega⟩
   ·split at h2
    ·obtain⟨s1,h3,h4⟩:=zac h2
     obtain⟨r,h5,h6⟩:=zac h4
     injection h6 with h6;subst h6
     have b2:=zcv h3 b1.1
     have b3:=zqm h5 b2.1
     exact⟨b3.1,by show _≤r.2.at_;omega⟩
    ·have b2:=zti h2 b1.1
     exact⟨b2.1,by omega⟩
theorem zt2 {t:ByteArray}{s:Sc}{x:Stm}{p:Stm×Sc}(h:zeb t s x=.ok p)(hs:s.at_≤t.size):p.2.at_≤t.size∧s.at_<p.2.at_:=by
 unfold zeb at h
 obtain⟨q,h1,h2⟩:=zac h
 obtain⟨r,h3,h4⟩:=zac h2
 obtain⟨s2,h5,h6⟩:=zac h4
 injection h6 with h6;subst h6
 have b1:=zhb h1 hs
 have hn:=(zf3 h1).2.1
 have key:r.2.at_≤t.size∧s.at_<r.2.at_:=by
  split at h3
  ·rename_i hi
   have hlt:=zfp hn hs (zkr hi)
   obtain⟨s1,h7,h8⟩:=zac h3
   obtain⟨u,h9,h10⟩:=zac h8
   injection h10 with h10;subst h10
   have b2:=zcv h7 b1.1
   have b3:=zkl h9 b2.1
   exact⟨b3.1,by show _<u.2.at_;omega⟩
  ·split at h3
   ·rename_i hi
    have hlt:=zfp hn hs (zkr hi)
    obtain⟨s1,h7,h8⟩:=zac h3
    obtain⟨u,h9,h10⟩:=zac h8
    obtain⟨s3,h11,h12⟩:=zac h10
    obtain⟨v,h13,h14⟩:=zac h12
    injection h14 with h14;subst h14
    have b2:=zcv h7 b1.1
    have b3:=zqm h9 b2.1
    have b4:=zd0 h11 b3.1
    have b5:=ziz h13 b4.1
    exact⟨b5.1,by show _<v.2.at_;omega⟩
   ·obtain⟨s1,h7,h8⟩:=zac h3
    have hlt:=zfp hn hs (zkr (zhq h7).1)
    have b2:=zd0 h7 b1.1
    have b3:=zwk h8 b2.1
    exact⟨b3.1,by omega⟩
 have b2:=zd0 h5 key.1
 exact⟨b2.1,by show _<s2.at_;omega⟩
def zfj (t:ByteArray)(s s':Sc)(n:Nat):Prop:=s'.at_≤t.size∧s.at_+n≤s'.at_
theorem zp3 {t:ByteArray}{stmt:Sc→Nat→Except Flt (List Stm×Sc)}(hst:∀ s k p,stmt s k=.ok p→s.at_≤t.size→zfj t s p.2 p.1.length∧0<p.1.length) :
  ∀ (n:Nat) {s:Sc} {k:Nat} {p:(List Nat×List Stm)×Sc},zdy stmt n s k=.ok p→s.at_≤t.size→zfj t s p.2 p.1.2.length
 | 0,s,k,p,h,hs=>by simp[zdy]at h
 | n+1,s,k,p,h,hs=>by
  rw[zdy]at h
  split at h
  ·injection h with h;subst h;exact⟨hs,by simp⟩
  ·obtain⟨q,h1,h2⟩:=zac h
   obtain⟨r,h3,h4⟩:=zac h2
   injection h4 with h4;subst h4
   have b1:=(hst _ _ _ h1 hs).1
   have b2:=zp3 hst n h3 b1.1
   refine⟨b2.1,?_⟩
   have:=b1.2;have:=b2.2
   show _+(q.1++r.1.2).length≤r.2.at_
   rw[List.length_append];omega
theorem zmg {t:ByteArray}{stmt:Sc→Nat→Except Flt (List Stm×Sc)}(hst:∀ s k p,stmt s k=.ok p→s.at_≤t.size→zfj t s p.2 p.1.length∧0<p.1.length){d:Nat}{s:Sc}{k:Nat}{p:(List Nat×List Stm)×Sc}
  (h:zdz t stmt d s k=.ok p) (hs:s.at_≤t.size):zfj t s p.2 p.1.2.length:=by
 unfold zdz at h
 split at h
 ·cases h
 ·obtain⟨s1,h1,h2⟩:=zac h
  obtain⟨q,h3,h4⟩:=zac h2
  obtain⟨s2,h5,h6⟩:=zac h4
  injection h6 with h6;subst h6
  have b1:=zd0 h1 hs
  have b2:=zp3 hst _ h3 b1.1
  have b3:=zd0 h5 b2.1
  refine⟨b3.1,?_⟩
  have:=b2.2
  show _+q.1.2.length≤s2.at_
  omega
theorem ztu {t:ByteArray}{block:Sc→Nat→Except Flt ((List Nat×List Stm)×Sc)}(hbl:∀ s k p,block s k=.ok p→s.at_≤t.size→zfj t s p.2 p.1.2.length){wh:Bool}{s s0:Sc}{k:Nat}{x:Stm}{p:List Stm×Sc}
  (h:zht t block wh s k x=.ok p) (hs:s.at_≤t.size) (h0:s.kind≠0→s0.at_<s.at_):zfj t s0 p.2 p.1.length∧0<p.1.length:=by
 unfold zht at h
 obtain⟨q,h1,h2⟩:=zac h
 obtain⟨b,h3,h4⟩:=zac h2
 have b1:=ziz h1 hs
 have b2:=hbl _ _ _ h3 b1.1
 have hlt:=h0 (by have:=(zh5 h1).1;omega)
 have e2:=b2.2
 split at h4
 ·injection h4 with h4;subst h4
  exact⟨⟨b2.1,by show _+(_::b.1.2).length≤b.2.at_;rw[List.length_cons];omega⟩,by simp⟩
 ·split at h4
  ·obtain⟨s1,h5,h6⟩:=zac h4
   obtain⟨c,h7,h8⟩:=zac h6
   injection h8 with h8;subst h8
   have b3:=zcv h5 b2.1
   have b4:=hbl _ _ _ h7 b3.1
   have e4:=b4.2
   exact⟨⟨b4.1,by show _+(_::(b.1.2++c.1.2)).length≤c.2.at_;rw[List.length_cons,List.length_append];omega⟩,by simp⟩
  ·injection h4 with h4;subst h4
   exact⟨⟨b2.1,by show _+(_::b.1.2).length≤b.2.at_;rw[List.length_cons];omega⟩,by simp⟩
theorem zu6 {t:ByteArray}{block:Sc→Nat→Except Flt ((List Nat×List Stm)×Sc)}(hbl:∀ s k p,block s k=.ok p→s.at_≤t.size→zfj t s p.2 p.1.2.length){s:Sc}{k:Nat}{x:Stm}{p:List Stm×Sc}
  (h:zbk t block s k x=.ok p) (hs:s.at_≤t.size):zfj t s p.2 p.1.length∧0<p.1.length:=by
 unfold zbk at h
 simp only at h
 split at h
 ·obtain⟨s1,h1,h2⟩:=zac h
  obtain⟨q,h3,h4⟩:=zac h2
  obtain⟨s2,h5,h6⟩:=zac h4
  injection h6 with h6;subst h6
  have b1:=zcv h1 hs
  have b2:=zhb h3 b1.1
  have b3:=zd0 h5 b2.1
  have hlt:=zfp h1 hs (by have:=(zf3 h3).1;omega)
  exact⟨⟨b3.1,by show _+1≤s2.at_;omega⟩,by simp⟩
 ·split at h
  ·obtain⟨s1,h1,h2⟩:=zac h
   have b1:=zcv h1 hs
   split at h2
   ·rename_i hi
    obtain⟨s2,h3,h4⟩:=zac h2
    injection h4 with h4;subst h4
    have b2:=zd0 h3 b1.1
    have hlt:=zfp h1 hs (zkr hi)
    exact⟨⟨b2.1,by show _+1≤s2.at_;omega⟩,by simp⟩
   ·obtain⟨q,h3,h4⟩:=zac h2
    obtain⟨s2,h5,h6⟩:=zac h4
    injection h6 with h6;subst h6
    have b2:=ziz h3 b1.1
    have b3:=zd0 h5 b2.1
    have hlt:=zfp h1 hs (by have:=(zh5 h3).1;omega)
    exact⟨⟨b3.1,by show _+1≤s2.at_;omega⟩,by simp⟩
  ·split at h
   ·obtain⟨s1,h1,h2⟩:=zac h
    have b1:=zcv h1 hs
    exact ztu hbl h2 b1.1 (zfp h1 hs)
   ·split at h
    ·obtain⟨s1,h1,h2⟩:=zac h
     obtain⟨q,h3,h4⟩:=zac h2
     obtain⟨s2,h5,h6⟩:=zac h4
     injection h6 with h6;subst h6
     have b1:=zcv h1 hs
     have b2:=zq1 h3 b1.1
     have b3:=zd0 h5 b2.2.1
     have hlt:=zfp h1 hs b2.1
     exact⟨⟨b3.1,by show _+1≤s2.at_;omega⟩,by simp⟩
    ·cases h
theorem zk2 {t:ByteArray}:∀ (lvl d:Nat) (s:Sc) (k:Nat) (p:List Stm×Sc),zbh t lvl d s k=.ok p→s.at_≤t.size→zfj t s p.2 p.1.length∧0<p.1.length
 | 0,d,s,k,p,h,hs=>by simp[zbh]at h
 | lvl+1,d,s,k,p,h,hs=>by
  rw[zbh]at h
  split at h
  ·exact zu6 (fun s k p h hs=>zmg (fun s k p h hs=>zk2 lvl (d+1) s k p h hs) h hs) h hs
  ·obtain⟨q,h1,h2⟩:=zac h
   injection h2 with h2;subst h2
   have b:=zt2 h1 hs
   exact⟨⟨b.1,by show _+1≤q.2.at_;omega⟩,by simp⟩
end
section
def okNm (n:Nm):Prop:=n.text.size≤700
structure okStm (s:Stm):Prop where
 x:okNm s.x
 y:okNm s.y
 z:okNm s.z
 f:okNm s.f
 args:(∀ a ∈ s.args,okNm a)∧s.args.length≤701
def okSc (s:Sc):Prop:=okNm s.tok
def SOk (x:Stm):Prop:=okStm x∧x.body=[]∧x.els=[]
theorem zid (n:Nm)(h:n.text=ByteArray.empty):okNm n:=by unfold okNm;rw[h];exact Nat.zero_le _
theorem zee {t:ByteArray}{s s':Sc}(h:zam t s=.ok s'):okSc s':=by
 unfold zam at h
 simp only at h
 split at h
 ·injection h with h;subst h;exact zid _ rfl
 ·split at h
  ·unfold ze4 at h
   simp only at h
   split at h
   ·cases h
   ·injection h with h;subst h
    unfold okSc okNm
    simp only[ByteArray.size_extract]
    omega
  ·split at h
   ·unfold zgu at h
    simp only at h
    split at h
    ·cases h
    ·injection h with h;subst h;exact zid _ rfl
   ·unfold zd3 at h
    split at h
    ·split at h <;> (injection h with h;subst h;exact zid _ rfl)
    ·cases h
theorem zez {t:ByteArray}{s s':Sc}{c:UInt8}(h:za9 t s c=.ok s'):okSc s':=zee (zhq h).2
theorem zii {t:ByteArray}{s:Sc}{p:Nm×Sc}(h:zdh t s=.ok p)(hs:okSc s):okNm p.1∧okSc p.2:=by
 obtain⟨_,h1,h2⟩:=zf3 h
 exact⟨h2 ▸ hs,zee h1⟩
theorem zio {t:ByteArray}{s:Sc}{p:Nm×Sc}(h:zco t s=.ok p)(hs:okSc s):okNm p.1∧okSc p.2:=by
 obtain⟨_,h1,h2⟩:=zh5 h
 exact⟨h2 ▸ hs,zee h1⟩
theorem item_ok {a:Bool}{t:ByteArray}{s:Sc}{p:Nm×Sc}(h:zex a t s=.ok p)(hs:okSc s):okNm p.1∧okSc p.2:=by
 unfold zex at h
 split at h
 ·exact zio h hs
 ·exact zii h hs
theorem zqo {a:Bool}{t:ByteArray}:∀ (n:Nat) {s:Sc} {p:List Nm×Sc},zcg a t n s=.ok p→okSc s→(∀ x ∈ p.1,okNm x)∧okSc p.2
 | 0,s,p,h,hs=>by simp[zcg]at h
 | n+1,s,p,h,hs=>by
  rw[zcg]at h
  obtain⟨q,h1,h2⟩:=zac h
  have b1:=item_ok h1 hs
  split at h2
  ·injection h2 with h2;subst h2;exact⟨by simpa using b1.1,b1.2⟩
  ·obtain⟨s2,h3,h4⟩:=zac h2
   obtain⟨r,h5,h6⟩:=zac h4
   have b3:=zqo n h5 (zez h3)
   injection h6 with h6;subst h6
   exact⟨by simpa using ⟨b1.1,b3.1⟩,b3.2⟩
theorem zo6 {a:Bool}{t:ByteArray}:∀ (n:Nat) {s:Sc} {p:List Nm×Sc},zcg a t n s=.ok p→p.1.length≤n
 | 0,s,p,h=>by simp[zcg]at h
 | n+1,s,p,h=>by
  rw[zcg]at h
  obtain⟨q,h1,h2⟩:=zac h
  split at h2
  ·injection h2 with h2;subst h2;simp
  ·obtain⟨s2,h3,h4⟩:=zac h2
   obtain⟨r,h5,h6⟩:=zac h4
   have b3:=zo6 n h5
   injection h6 with h6;subst h6
   simpa using b3
theorem zlu {a:Bool}{t:ByteArray}(ht:t.size≤700){s:Sc}{p:List Nm×Sc}(h:zdv a t s=.ok p)(hs:okSc s):((∀ x ∈ p.1,okNm x)∧p.1.length≤701)∧okSc p.2:=by
 unfold zdv at h
 obtain⟨q,h1,h2⟩:=zac h
 obtain⟨s2,h3,h4⟩:=zac h2
 injection h4 with h4;subst h4
 refine⟨?_,zez h3⟩
 split at h1
 ·injection h1 with h1;subst h1;simp
 ·refine⟨(zqo _ h1 hs).1,?_⟩
  have:=zo6 _ h1
  show q.1.length≤701
  omega
theorem zqy {t:ByteArray}(ht:t.size≤700){s:Sc}{x:Stm}{p:Stm×Sc}(h:zg4 t s x=.ok p)(hs:okSc s)(hx:SOk x):SOk p.1∧okSc p.2:=by
 unfold zg4 at h
 obtain⟨q,h1,h2⟩:=zac h
 obtain⟨s2,h3,h4⟩:=zac h2
 obtain⟨r,h5,h6⟩:=zac h4
 injection h6 with h6;subst h6
 have b3:=zlu ht h5 (zez h3)
 exact⟨⟨⟨hx.1.x,hx.1.y,hx.1.z,(zii h1 hs).1,b3.1⟩,hx.2⟩,b3.2⟩
theorem field_ok {t:ByteArray}{s:Sc}{p:Nat×Sc}(h:zfz t s=.ok p)(hs:okSc s):okSc p.2:=by
 unfold zfz at h
 obtain⟨q,h1,h2⟩:=zac h
 have b1:=(zii h1 hs).2
 split at h2
 ·injection h2 with h2;subst h2;exact b1
 ·split at h2
  ·injection h2 with h2;subst h2;exact b1
  ·cases h2
theorem zvk {t:ByteArray}{s:Sc}{x:Stm}{p:Stm×Sc}(h:zbw t s x=.ok p)(hs:okSc s)(hx:SOk x):SOk p.1∧okSc p.2:=by
 unfold zbw at h
 simp only at h
 generalize (if s.kind=3 then(if s.sign=43 then 1 else if s.sign=45 then 2 else if s.sign=60 then 3 else if s.sign=101 then 4 else 0)else 0)=b at h
 split at h
 ·injection h with h;subst h;exact⟨hx,hs⟩
 ·obtain⟨s1,h1,h2⟩:=zac h
  obtain⟨q,h3,h4⟩:=zac h2
  injection h4 with h4;subst h4
  have b1:=zio h3 (zee h1)
  exact⟨⟨⟨hx.1.x,hx.1.y,b1.1,hx.1.f,hx.1.args⟩,hx.2⟩,b1.2⟩
theorem zt0 {t:ByteArray}(ht:t.size≤700){s:Sc}{x:Stm}{p:Stm×Sc}(h:zb9 t s x=.ok p)(hs:okSc s)(hx:SOk x):SOk p.1∧okSc p.2:=by
 unfold zb9 at h
 simp only at h
 have hx1:SOk { x with mark:=s.tok.at_ }:=⟨⟨hx.1.x,hx.1.y,hx.1.z,hx.1.f,hx.1.args⟩,hx.2⟩
 split at h
 ·obtain⟨s1,h1,h2⟩:=zac h
  injection h2 with h2;subst h2
  exact⟨⟨⟨hx.1.x,hx.1.y,hx.1.z,hx.1.f,hx.1.args⟩,hx.2⟩,zee h1⟩
 ·split at h
  ·obtain⟨s1,h1,h2⟩:=zac h
   exact zqy ht h2 (zee h1) ⟨⟨hx.1.x,hx.1.y,hx.1.z,hx.1.f,hx.1.args⟩,hx.2⟩
  ·obtain⟨q,h1,h2⟩:=zac h
   have b1:=zio h1 hs
   split at h2
   ·obtain⟨s1,h3,h4⟩:=zac h2
    obtain⟨r,h5,h6⟩:=zac h4
    injection h6 with h6;subst h6
    have b3:=zlu ht h5 (zee h3)
    exact⟨⟨⟨hx.1.x,hx.1.y,hx.1.z,b1.1,b3.1⟩,hx.2⟩,b3.2⟩
   ·split at h2
    ·obtain⟨s1,h3,h4⟩:=zac h2
     obtain⟨r,h5,h6⟩:=zac h4
     injection h6 with h6;subst h6
     exact⟨⟨⟨hx.1.x,b1.1,hx.1.z,hx.1.f,hx.1.args⟩,hx.2⟩,field_ok h5 (zee h3)⟩
    ·exact zvk h2 b1.2 ⟨⟨hx.1.x,b1.1,hx.1.z,hx.1.f,hx.1.args⟩,hx.2⟩
theorem named_ok {t:ByteArray}(ht:t.size≤700){s:Sc}{x:Stm}{p:Stm×Sc}(h:zeb t s x=.ok p)(hs:okSc s)(hx:SOk x):SOk p.1∧okSc p.2:=by
 unfold zeb at h
 obtain⟨q,h1,h2⟩:=zac h
 obtain⟨r,h3,h4⟩:=zac h2
 obtain⟨s2,h5,h6⟩:=zac h4
 injection h6 with h6;subst h6
 refine⟨?_,zez h5⟩
 have b1:=zii h1 hs
 split at h3
 ·obtain⟨s1,h7,h8⟩:=zac h3
  obtain⟨u,h9,h10⟩:=zac h8
  injection h10 with h10;subst h10
  exact⟨⟨hx.1.x,hx.1.y,hx.1.z,b1.1,(zlu ht h9 (zee h7)).1⟩,hx.2⟩
 ·split at h3
  ·obtain⟨s1,h7,h8⟩:=zac h3
   obtain⟨u,h9,h10⟩:=zac h8
   obtain⟨s3,h11,h12⟩:=zac h10
   obtain⟨v,h13,h14⟩:=zac h12
   injection h14 with h14;subst h14
   exact⟨⟨b1.1,(zio h13 (zez h11)).1,hx.1.z,hx.1.f,hx.1.args⟩,hx.2⟩
  ·obtain⟨s1,h7,h8⟩:=zac h3
   exact(zt0 ht h8 (zez h7) ⟨⟨b1.1,hx.1.y,hx.1.z,hx.1.f,hx.1.args⟩,hx.2⟩).1
def look (k:Nat)(l:List Stm)(j:Nat):Option Stm:=if k≤j then l[j-k]? else none
inductive za3 (f:Nat→Option Stm):List Nat→Nat→Nat→Prop
 | nil (k:Nat):za3 f [] k k
 | cons {k m n e:Nat} {x:Stm} {r:List Nat}:f k=some x→okStm x→za3 f x.body (k+1) m→za3 f x.els m n→za3 f r n e→za3 f (k::r) k e
theorem za3.le {f:Nat→Option Stm}{l:List Nat}{k e:Nat}(h:za3 f l k e):k≤e:=by
 induction h with
 | nil=>exact Nat.le_refl _
 | cons _ _ _ _ _ h1 h2 h3=>omega
theorem za3.mono {f g:Nat→Option Stm}{l:List Nat}{k e:Nat}(h:za3 f l k e)(hfg:∀ j x,k≤j→j<e→f j=some x→g j=some x):za3 g l k e:=by
 induction h with
 | nil=>exact .nil _
 | cons h0 ho b1 b2 b3 h1 h2 h3 =>
  have l1:=b1.le
  have l2:=b2.le
  have l3:=b3.le
  exact .cons (hfg _ _ (Nat.le_refl _) (by omega) h0) ho (h1 fun j x a b=>hfg j x (by omega) (by omega)) (h2 fun j x a b=>hfg j x (by omega) (by omega)) (h3 fun j x a b=>hfg j x (by omega) (by omega))
theorem za3.append {f:Nat→Option Stm}{a b:List Nat}{k m e:Nat}(h:za3 f a k m)(h':za3 f b m e):za3 f (a++b) k e:=by
 induction h with
 | nil=>exact h'
 | cons h0 ho b1 b2 _ _ _ h3=>exact .cons h0 ho b1 b2 (h3 h')
theorem zn0 {k:Nat}{l m:List Stm}(j:Nat)(x:Stm)(h:look k l j=some x):look k (l++m) j=some x:=by
 unfold look at *
 split at h
 ·rename_i hj
  rw[if_pos hj,List.getElem?_append_left (List.getElem?_eq_some_iff.1 h).1]
  exact h
 ·cases h
theorem zlv {k:Nat}{l m:List Stm}(j:Nat)(x:Stm)(h:look (k+l.length) m j=some x):look k (l++m) j=some x:=by
 unfold look at *
 split at h
 ·rename_i hj
  rw[if_pos (by omega),List.getElem?_append_right (by omega),show j-k-l.length=j-(k+l.length) by omega]
  exact h
 ·cases h
theorem zk0 {k:Nat}{x:Stm}{l:List Stm}:look k (x::l) k=some x:=by simp[look]
theorem zk3 {k:Nat}{x:Stm}{l:List Stm}(j:Nat)(y:Stm)(h:look (k+1) l j=some y):look k (x::l) j=some y:=zlv (l:=[x]) j y h
def zj2 (k:Nat)(p:List Nat×List Stm):Prop:=za3 (look k p.2) p.1 k (k+p.2.length)
def zed (k:Nat)(l:List Stm):Prop:=za3 (look k l) [k] k (k+l.length)
theorem zed.one {k:Nat}{x:Stm}(h:SOk x):zed k [x]:=by
 refine .cons (m:=k+1) (n:=k+1) zk0 h.1 ?_ ?_ (.nil _)
 ·rw[h.2.1];exact .nil _
 ·rw[h.2.2];exact .nil _
theorem zp0 {stmt:Sc→Nat→Except Flt (List Stm×Sc)}(hst:∀ s k p,stmt s k=.ok p→okSc s→zed k p.1∧okSc p.2) :
  ∀ (n:Nat) {s:Sc} {k:Nat} {p:(List Nat×List Stm)×Sc},zdy stmt n s k=.ok p→okSc s→zj2 k p.1∧okSc p.2
 | 0,s,k,p,h,_=>by simp[zdy]at h
 | n+1,s,k,p,h,hs=>by
  rw[zdy]at h
  split at h
  ·injection h with h;subst h;exact⟨.nil _,hs⟩
  ·obtain⟨q,h1,h2⟩:=zac h
   obtain⟨r,h3,h4⟩:=zac h2
   injection h4 with h4;subst h4
   have b1:=hst _ _ _ h1 hs
   have b2:=zp0 hst n h3 b1.2
   refine⟨?_,b2.2⟩
   have h5:=(b1.1.mono (g:=look k (q.1++r.1.2)) (fun j x _ _=>zn0 j x)).append (b2.1.mono (g:=look k (q.1++r.1.2)) (fun j x _ _=>zlv j x))
   unfold zj2
   rw[List.length_append,← Nat.add_assoc]
   exact h5
theorem zqi {t:ByteArray}{stmt:Sc→Nat→Except Flt (List Stm×Sc)}(hst:∀ s k p,stmt s k=.ok p→okSc s→zed k p.1∧okSc p.2){d:Nat}{s:Sc}{k:Nat}{p:(List Nat×List Stm)×Sc}
  (h:zdz t stmt d s k=.ok p):zj2 k p.1∧okSc p.2:=by
 unfold zdz at h
 split at h
 ·cases h
 ·obtain⟨s1,h1,h2⟩:=zac h
  obtain⟨q,h3,h4⟩:=zac h2
  obtain⟨s2,h5,h6⟩:=zac h4
  injection h6 with h6;subst h6
  exact⟨(zp0 hst _ h3 (zez h1)).1,zez h5⟩
theorem zwe {t:ByteArray}{block:Sc→Nat→Except Flt ((List Nat×List Stm)×Sc)}(hbl:∀ s k p,block s k=.ok p→zj2 k p.1∧okSc p.2){wh:Bool}{s:Sc}{k:Nat}{x:Stm}{p:List Stm×Sc}
  (h:zht t block wh s k x=.ok p) (hs:okSc s) (hx:SOk x):zed k p.1∧okSc p.2:=by
 unfold zht at h
 obtain⟨q,h1,h2⟩:=zac h
 obtain⟨b,h3,h4⟩:=zac h2
 have b1:=zio h1 hs
 have b2:=hbl _ _ _ h3
 split at h4
 ·injection h4 with h4;subst h4
  refine⟨?_,b2.2⟩
  unfold zed
  refine .cons zk0 ⟨hx.1.x,b1.1,hx.1.z,hx.1.f,hx.1.args⟩ (b2.1.mono fun j x _ _=>zk3 j x) ?_ ?_ (n:=k+1+b.1.2.length)
  ·simp only[hx.2.2];exact .nil _
  ·rw[List.length_cons,show k+(b.1.2.length+1)=k+1+b.1.2.length by omega];exact .nil _
 ·split at h4
  ·obtain⟨s1,h5,h6⟩:=zac h4
   obtain⟨c,h7,h8⟩:=zac h6
   injection h8 with h8;subst h8
   have b4:=hbl _ _ _ h7
   refine⟨?_,b4.2⟩
   unfold zed
   refine .cons zk0 ⟨hx.1.x,b1.1,hx.1.z,hx.1.f,hx.1.args⟩ (b2.1.mono fun j x _ _ h=>zk3 j x (zn0 j x h)) (b4.1.mono fun j x _ _ h=>zk3 j x (zlv j x h)) ?_
   rw[List.length_cons,List.length_append,show k+(b.1.2.length+c.1.2.length+1)=k+1+b.1.2.length+c.1.2.length by omega];exact .nil _
  ·injection h4 with h4;subst h4
   refine⟨?_,b2.2⟩
   unfold zed
   refine .cons zk0 ⟨hx.1.x,b1.1,hx.1.z,hx.1.f,hx.1.args⟩ (b2.1.mono fun j x _ _=>zk3 j x) ?_ ?_ (n:=k+1+b.1.2.length)
   ·simp only[hx.2.2];exact .nil _
   ·rw[List.length_cons,show k+(b.1.2.length+1)=k+1+b.1.2.length by omega];exact .nil _
theorem zsx {t:ByteArray}(ht:t.size≤700){block:Sc→Nat→Except Flt ((List Nat×List Stm)×Sc)}(hbl:∀ s k p,block s k=.ok p→zj2 k p.1∧okSc p.2){s:Sc}{k:Nat}{x:Stm}{p:List Stm×Sc}
  (h:zbk t block s k x=.ok p) (hx:SOk x):zed k p.1∧okSc p.2:=by
 unfold zbk at h
 simp only at h
 split at h
 ·obtain⟨s1,h1,h2⟩:=zac h
  obtain⟨q,h3,h4⟩:=zac h2
  obtain⟨s2,h5,h6⟩:=zac h4
  injection h6 with h6;subst h6
  exact⟨zed.one ⟨⟨hx.1.x,(zii h3 (zee h1)).1,hx.1.z,hx.1.f,hx.1.args⟩,hx.2⟩,zez h5⟩
 ·split at h
  ·obtain⟨s1,h1,h2⟩:=zac h
   split at h2
   ·obtain⟨s2,h3,h4⟩:=zac h2
    injection h4 with h4;subst h4
    exact⟨zed.one ⟨⟨hx.1.x,hx.1.y,hx.1.z,hx.1.f,hx.1.args⟩,hx.2⟩,zez h3⟩
   ·obtain⟨q,h3,h4⟩:=zac h2
    obtain⟨s2,h5,h6⟩:=zac h4
    injection h6 with h6;subst h6
    exact⟨zed.one ⟨⟨hx.1.x,(zio h3 (zee h1)).1,hx.1.z,hx.1.f,hx.1.args⟩,hx.2⟩,zez h5⟩
  ·split at h
   ·obtain⟨s1,h1,h2⟩:=zac h
    exact zwe hbl h2 (zee h1) hx
   ·split at h
    ·obtain⟨s1,h1,h2⟩:=zac h
     obtain⟨q,h3,h4⟩:=zac h2
     obtain⟨s2,h5,h6⟩:=zac h4
     injection h6 with h6;subst h6
     exact⟨zed.one (zqy ht h3 (zee h1) ⟨⟨hx.1.x,hx.1.y,hx.1.z,hx.1.f,hx.1.args⟩,hx.2⟩).1,zez h5⟩
    ·cases h
theorem zp6 (n:Nat):SOk { at_:=n }:=⟨⟨zid _ rfl,zid _ rfl,zid _ rfl,zid _ rfl,by simp⟩,rfl,rfl⟩
theorem zpy {t:ByteArray}(ht:t.size≤700):∀ (lvl d:Nat) (s:Sc) (k:Nat) (p:List Stm×Sc),zbh t lvl d s k=.ok p→okSc s→zed k p.1∧okSc p.2
 | 0,d,s,k,p,h,_=>by simp[zbh]at h
 | lvl+1,d,s,k,p,h,hs=>by
  rw[zbh]at h
  split at h
  ·exact zsx ht (fun s k p h=>zqi (fun s k p h hs=>zpy ht lvl (d+1) s k p h hs) h) h (zp6 _)
  ·obtain⟨q,h1,h2⟩:=zac h
   injection h2 with h2;subst h2
   have b:=named_ok ht h1 hs (zp6 _)
   exact⟨zed.one b.1,b.2⟩
inductive zcf (f:Nat→Option Stm):List Dcl→Nat→Nat→Prop
 | nil (k:Nat):zcf f [] k k
 | cons {k m e:Nat} {d:Dcl} {r:List Dcl}:okNm d.name→((∀ a ∈ d.params,okNm a)∧d.params.length≤701)→(d.kind=118∨d.kind=109∨d.kind=102)→za3 f d.body k m→zcf f r m e→zcf f (d::r) k e
theorem zcf.le {f:Nat→Option Stm}{l:List Dcl}{k e:Nat}(h:zcf f l k e):k≤e:=by
 induction h with
 | nil=>exact Nat.le_refl _
 | cons _ _ _ h1 _ h2=>have:=h1.le;omega
theorem zcf.mono {f g:Nat→Option Stm}{l:List Dcl}{k e:Nat}(h:zcf f l k e)(hfg:∀ j x,f j=some x→g j=some x):zcf g l k e:=by
 induction h with
 | nil=>exact .nil _
 | cons a b c h1 _ h2=>exact .cons a b c (h1.mono fun j x _ _=>hfg j x) h2
theorem declM_ok {t:ByteArray}(ht:t.size≤700){s:Sc}{k:Nat}{p:(Dcl×List Stm)×Sc}(h:zd9 t s k=.ok p) :
  okNm p.1.1.name∧((∀ a ∈ p.1.1.params,okNm a)∧p.1.1.params.length≤701)∧(p.1.1.kind=118∨p.1.1.kind=109∨p.1.1.kind=102)∧za3 (look k p.1.2) p.1.1.body k (k+p.1.2.length):=by
 unfold zd9 at h
 split at h
 ·obtain⟨s1,h1,h2⟩:=zac h
  obtain⟨q,h3,h4⟩:=zac h2
  obtain⟨s2,h5,h6⟩:=zac h4
  injection h6 with h6;subst h6
  refine⟨(zii h3 (zee h1)).1,by simp,?_,.nil _⟩
  show(if _ then _ else _)=_∨(if _ then _ else _)=_∨_
  split <;> simp
 ·split at h
  ·obtain⟨s1,h1,h2⟩:=zac h
   obtain⟨q,h3,h4⟩:=zac h2
   obtain⟨s2,h5,h6⟩:=zac h4
   obtain⟨r,h7,h8⟩:=zac h6
   obtain⟨b,h9,h10⟩:=zac h8
   injection h10 with h10;subst h10
   exact⟨(zii h3 (zee h1)).1,(zlu ht h7 (zez h5)).1,.inr (.inr rfl),(zqi (fun s k p h hs=>zpy ht 6 1 s k p h hs) h9).1⟩
  ·cases h
theorem zqz {t:ByteArray}(ht:t.size≤700):∀ (n:Nat) {s:Sc} {k:Nat} {p:List Dcl×List Stm},zdi t n s k=.ok p→zcf (look k p.2) p.1 k (k+p.2.length)
 | 0,s,k,p,h=>by simp[zdi]at h
 | n+1,s,k,p,h=>by
  rw[zdi]at h
  split at h
  ·injection h with h;subst h;exact .nil _
  ·obtain⟨q,h1,h2⟩:=zac h
   obtain⟨r,h3,h4⟩:=zac h2
   injection h4 with h4;subst h4
   obtain⟨a,b,c,d⟩:=declM_ok ht h1
   have b2:=zqz ht n h3
   rw[List.length_append,← Nat.add_assoc]
   exact .cons a b c (d.mono fun j x _ _=>zn0 j x) (b2.mono fun j x=>zlv j x)
theorem zxf {t:ByteArray}{p:List Dcl×List Stm}(h:zd8 t=.ok p):zcf (fun j=>p.2[j]?) p.1 0 p.2.length:=by
 unfold zd8 at h
 split at h
 ·cases h
 ·rename_i ht
  have ht:t.size≤700:=by omega
  obtain⟨s,h1,h2⟩:=zac h
  have b:=zqz ht _ h2
  rw[Nat.zero_add]at b
  exact b.mono fun j x h=>by simpa [look] using h
end
section
structure Ar where
 c:Bool:=false
 n:Nat:=0
structure In where
 op:Nat:=0
 place:Int:=0
 fn:Nat:=0
 x:Int:=0
 y:Ar:={}
 z:Ar:={}
 bin:Nat:=0
 var:Nat:=0
 site:Nat:=0
 call:Nat:=0
 args:List Ar:=[]
 to:Nat:=0
structure Fu where
 name:ByteArray
 params:Nat
 locals:Nat:=0
 from_:Nat:=0
 to:Nat:=0
abbrev NMap:=List (ByteArray×Nat)
structure Lo where
 vars:NMap:=[]
 muts:NMap:=[]
 funs:NMap:=[]
 locs:NMap:=[]
 fs:List Fu:=[]
 code:List In:=[]
 at_:List Nat:=[]
 news:List Nat:=[]
 gos:List Nat:=[]
 fn:Nat:=0
 nv:Nat:=0
 nm:Nat:=0
def Lo.known (s:Lo)(n:ByteArray):Bool:=(mget s.vars n).isSome||(mget s.muts n).isSome||(mget s.funs n).isSome
def zbq (s:Lo)(n:Nm):Except Flt (Nat×Lo) :=
 if s.known n.text then .error ⟨9,n.at_⟩else
 match mget s.locs n.text with
 | some k=>.ok (k,s)
 | none=>if s.locs.length=6 then .error ⟨8,n.at_⟩else .ok (s.locs.length,{ s with locs:=mput s.locs n.text s.locs.length })
def argM (s:Lo)(n:Nm):Except Flt (Ar×Lo) :=
 if n.num then .ok ({ c:=true,n:=n.n },s)else zab (zbq s n) fun p=>.ok ({ n:=p.1 },p.2)
def zcz:Lo→List Nm→Except Flt (List Ar×Lo)
 | s,[]=>.ok ([],s)
 | s,n::r=>zab (argM s n) fun p=>zab (zcz p.2 r) fun q=>.ok (p.1::q.1,q.2)
def Lo.paramsOf (s:Lo)(c:Nat):Nat:=match s.fs[c]? with | some f=>f.params | none=>0
def zc2 (s:Lo)(t:Stm)(x:In):Except Flt (In×Lo) :=
 match mget s.funs t.f.text with
 | none=>.error ⟨9,t.f.at_⟩
 | some c=>if t.args.length=s.paramsOf c then zab (zcz s t.args) fun p=>.ok ({ x with call:=c,args:=x.args++p.1 },p.2)else .error ⟨10,t.f.at_⟩
def Lo.emit (s:Lo)(x:In):Lo:={ s with code:=s.code++[{ x with fn:=s.fn }] }
def zbv (s:Lo)(t:Stm)(x:In):Except Flt (In×Lo) :=
 if t.op=6 then
  if s.news.length=6 then .error ⟨8,t.mark⟩else .ok ({ x with site:=s.news.length },{ s with news:=s.news++[s.code.length] })
 else if t.op=7 then
  if s.gos.length=5 then .error ⟨8,t.mark⟩else zc2 { s with gos:=s.gos++[s.code.length] } t { x with site:=s.gos.length }
 else if t.op=11 then zc2 s t x
 else zab (argM s t.y) fun p=>.ok ({ x with y:=p.1 },p.2)
def setM (s:Lo)(t:Stm)(x:In):Except Flt Lo :=
 match mget s.vars t.x.text with
 | some v=>if t.bin=0 then zab (argM s t.y) fun p=>.ok (p.2.emit { x with op:=3,var:=v,y:=p.1 })else .error ⟨9,t.x.at_⟩
 | none=>zab (zbq s t.x) fun p =>
  match(if t.y.num=false∧t.bin=0 then mget p.2.vars t.y.text else none)with
  | some v=>.ok (p.2.emit { x with x:=p.1,op:=2,var:=v })
  | none=>zab (argM p.2 t.y) fun q =>
   if t.bin=0 then .ok (q.2.emit { x with x:=p.1,y:=q.1 })else zab (argM q.2 t.z) fun r=>.ok (r.2.emit { x with x:=p.1,y:=q.1,z:=r.1 })
def Lo.patch (s:Lo)(k:Nat):Lo:={ s with code:=s.code.modify k fun i=>{ i with to:=s.code.length } }
def zho (to:Nat):In:={ op:=20,place:=-1,x:=-1,to:=to }
def zdm (block:Lo→List Nat→Except Flt Lo)(s:Lo)(t:Stm)(x:In):Except Flt Lo :=
 zab (argM s t.y) fun p =>
 zab (block (p.2.emit { x with y:=p.1 }) t.body) fun s2 =>
 if t.op=14 then .ok ((s2.emit (zho p.2.code.length)).patch p.2.code.length)
 else if t.has then
  zab (block ((s2.emit (zho 0)).patch p.2.code.length) t.els) fun s3=>.ok (s3.patch s2.code.length)
 else .ok (s2.patch p.2.code.length)
def Lo.note (s:Lo)(place at_:Nat):Lo:={ s with at_:=(s.at_++List.replicate (place+1-s.at_.length) 0).set place at_ }
def zhz (s:Lo)(t:Stm)(x:In):Except Flt Lo :=
 if t.op=9∨t.op=10 then
  match mget s.muts t.y.text with
  | some v=>.ok (s.emit { x with var:=v })
  | none=>.error ⟨9,t.y.at_⟩
 else if t.op=8 then zab (argM s t.y) fun p=>.ok (p.2.emit { x with y:=p.1 })
 else if t.op=12 then
  if t.has then zab (argM s t.y) fun p=>.ok (p.2.emit { x with y:=p.1 })else .ok (s.emit { x with y:={ c:=true } })
 else if t.op=5 then zab (zbq s t.x) fun p=>zab (argM p.2 t.y) fun q=>.ok (q.2.emit { x with x:=p.1,y:=q.1 })
 else if t.x.text.size=0 then zab (zbv s t x) fun p=>.ok (p.2.emit p.1)
 else zab (zbq s t.x) fun p=>zab (zbv p.2 t { x with x:=p.1 }) fun q=>.ok (q.2.emit q.1)
def zb0 (t:Stm)(place:Nat):In:={ op:=t.op,place:=place,x:=-1,bin:=t.bin,var:=t.field }
def zdt (block:Lo→List Nat→Except Flt Lo)(s:Lo)(t:Stm)(place:Nat):Except Flt Lo :=
 if 48≤place then .error ⟨8,t.at_⟩else
 if t.op=1 then setM (s.note place t.at_) t (zb0 t place)
 else if t.op=13∨t.op=14 then zdm block (s.note place t.at_) t (zb0 t place)
 else zhz (s.note place t.at_) t (zb0 t place)
def zax (xs:List Stm):Nat→Lo→List Nat→Except Flt Lo
 | 0,_,_=>.error ⟨99,0⟩
 | _+1,s,[]=>.ok s
 | n+1,s,k::r =>
  match xs[k]? with
  | some t=>zab (zdt (zax xs n) s t k) fun s2=>zax xs n s2 r
  | none=>.error ⟨99,0⟩
def zb3 (s:Lo)(d:Dcl):Except Flt Lo :=
 if s.known d.name.text then .error ⟨7,d.name.at_⟩else
 if d.kind=118 then
  if s.vars.length=5 then .error ⟨8,d.name.at_⟩else .ok { s with vars:=mput s.vars d.name.text s.vars.length,nv:=(mput s.vars d.name.text s.vars.length).length,nm:=s.muts.length }
 else if d.kind=109 then
  if s.muts.length=3 then .error ⟨8,d.name.at_⟩else .ok { s with muts:=mput s.muts d.name.text s.muts.length,nv:=s.vars.length,nm:=(mput s.muts d.name.text s.muts.length).length }
 else
  if s.funs.length=5 then .error ⟨8,d.name.at_⟩else .ok { s with funs:=mput s.funs d.name.text s.funs.length,fs:=s.fs++[{ name:=d.name.text,params:=d.params.length }],nv:=s.vars.length,nm:=s.muts.length }
def zic:Lo→List Dcl→Except Flt Lo
 | s,[]=>.ok s
 | s,d::r=>zab (zb3 s d) fun s2=>zic s2 r
def zgf (s:Lo):List Nm→Nat→NMap→Except Flt Unit
 | [],_,_=>.ok ()
 | n::r,k,seen =>
  if s.known n.text||(mget seen n.text).isSome then .error ⟨7,n.at_⟩else
  if k=3 then .error ⟨8,n.at_⟩else zgf s r (k+1) (mput seen n.text 1)
def zin (s:Lo):List Dcl→Except Flt Unit
 | []=>.ok ()
 | d::r=>zab (zgf s d.params 0 []) fun _=>zin s r
def ze0 (l:List Nm):NMap:=l.foldl (fun m n=>mput m n.text m.length) []
def zfd:In:={ op:=12,place:=-1,x:=-1,y:={ c:=true } }
def Lo.begin_ (s:Lo)(d:Dcl)(fn:Nat):Lo:={ s with fn:=fn,locs:=ze0 d.params,fs:=s.fs.modify fn fun f=>{ f with from_:=s.code.length } }
def Lo.end_ (s:Lo)(fn:Nat):Lo:={ s with fs:=s.fs.modify fn fun f=>{ f with to:=s.code.length,locals:=s.locs.length } }
def zi5 (xs:List Stm)(s:Lo)(d:Dcl)(fn:Nat):Except Flt Lo :=
 zab (zax xs (xs.length+2) (s.begin_ d fn) d.body) fun s2=>.ok ((s2.emit zfd).end_ fn)
def zgi (xs:List Stm):Lo→List Dcl→Nat→Except Flt Lo
 | s,[],_=>.ok s
 | s,d::r,fn=>if d.kind=102 then zab (zi5 xs s d fn) fun s2=>zgi xs s2 r (fn+1)else zgi xs s r fn
structure Pr where
 ds:List Dcl
 xs:List Stm
 nv:Nat
 nm:Nat
 fs:List Fu
 code:List In
 at_:List Nat
 news:List Nat
 gos:List Nat
 main:Nat
def zfc:ByteArray:=bytes [109,97,105,110]
def lowerM (ds:List Dcl)(xs:List Stm):Except Flt Pr :=
 zab (zic {} ds) fun s=>zab (zin s ds) fun _=>zab (zgi xs s ds 0) fun s =>
 match mget s.funs zfc with
 | none=>.error ⟨11,0⟩
 | some m=>if 0<s.paramsOf m then .error ⟨11,0⟩else .ok { ds:=ds,xs:=xs,nv:=s.nv,nm:=s.nm,fs:=s.fs,code:=s.code,at_:=s.at_,news:=s.news,gos:=s.gos,main:=m }
def zbu (t:ByteArray):Except Flt Pr:=zab (zd8 t) fun p=>lowerM p.1 p.2
end
section
open Go.RowKit
attribute [local go_sem] zaq
theorem tyName:zbl Tryz.prog 221 220 4 40:=zbl.mk' Tryz.underlying221 zw5 rfl (by omega) (by omega)
theorem zbn {w:World}{B B':Nat}{e:TypeId}{size:Nat}{v:Value}{n:Nat}{xs:List Value}(h:w.ownsRow B e size v n xs)(hB:B'≤B):w.ownsRow B' e size v n xs:=by
 obtain⟨h1,h2⟩:=h
 refine⟨h1,h2.imp id ?_⟩
 rintro⟨g,cap,cur,hv,hg,r⟩
 exact⟨g,cap,cur,hv,Nat.le_trans hB hg,r⟩
def zfa (atoms:Bool)(t:ByteArray)(s:Sc):Except Flt (List Nm×Sc):=if isM s 41 then .ok ([],s)else zcg atoms t (t.size+1) s
def NamesRel (C:PC)(w0:World)(M:Except Flt (List Nm×Sc))(atoms:Bool)(n:Nat)(v5 v6:Value)(wr:World):Prop :=
 ∃ (acc:List Nm) (s:Sc) (fl:Bool),v6=.bool fl∧zbs wr w0.heap.size v5 acc∧Env C wr s∧Chg C.B [] [C.sb] w0 wr∧acc.length≤s.at_ ∧
  ((fl=true∧n=0∧M=.ok (acc,s))∨(fl=false∧C.t.size-s.at_<n∧M=zab (zcg atoms C.t n s) fun q=>.ok (acc++q.1,q.2)))
theorem zqh {atoms:Bool}{t:ByteArray}{s:Sc}{p:Nm×Sc}(h:zex atoms t s=.ok p):zam t s=.ok p.2:=by
 unfold zex at h
 split at h
 ·exact(zh5 h).2.1
 ·exact(zf3 h).2.1
theorem zq3 {s:Sc}{c:UInt8}(h:isM s c=true):s.kind≠0:=by
 unfold isM at h
 simp only[Bool.and_eq_true,beq_iff_eq]at h
 omega
section
variable {t:ByteArray} {s0 s s2:Sc} {a:Bool} {acc:List Nm} {p:Nm×Sc} {m:Nat} {f:Flt}
theorem zpq (hM:zfa a t s0=zab (zcg a t (m+1) s) fun q=>.ok (acc++q.1,q.2))(h1:zex a t s=.ok p)(h2:isM p.2 41=true):zfa a t s0=.ok (acc++[p.1],p.2):=by
 rw[hM,zcg,h1,zae,if_pos h2,zae]
theorem zsq (hM:zfa a t s0=zab (zcg a t (m+1) s) fun q=>.ok (acc++q.1,q.2))(h1:zex a t s=.ok p)(h2:isM p.2 41=false)(h3:za9 t p.2 44=.ok s2) :
  zfa a t s0=zab (zcg a t m s2) fun q=>.ok ((acc++[p.1])++q.1,q.2):=by
 rw[hM,zcg,h1,zae,if_neg (by rw[h2];simp),h3,zae,zig]
 congr 1
 funext q
 rw[zae];simp
theorem zpu (hM:zfa a t s0=zab (zcg a t (m+1) s) fun q=>.ok (acc++q.1,q.2))(h1:zex a t s=.error f):zdv a t s0=.error f:=by
 show zab (zfa a t s0) _=_
 rw[hM,zcg,h1];rfl
theorem zsd (hM:zfa a t s0=zab (zcg a t (m+1) s) fun q=>.ok (acc++q.1,q.2))(h1:zex a t s=.ok p)(h2:isM p.2 41=false)(h3:za9 t p.2 44=.error f):zdv a t s0=.error f:=by
 show zab (zfa a t s0) _=_
 rw[hM,zcg,h1,zae,if_neg (by rw[h2];simp),h3];rfl
theorem zqp (h1:zex a t s=.ok p)(h2:isM p.2 41=true)(hs:s.at_≤t.size):s.at_<p.2.at_:=(zgd (zqh h1) hs).2.2 (zq3 h2)
theorem zse (h1:zex a t s=.ok p)(h3:za9 t p.2 44=.ok s2)(hs:s.at_≤t.size):s.at_<s2.at_∧s2.at_≤t.size:=by
 have h4:=zgd (zqh h1) hs
 have h5:=zgd (zhq h3).2 h4.1
 have h6:=h4.2.2 (zq3 (zhq h3).1)
 omega
end
theorem zjn (C:PC)(w:World)(s0:Sc)(atoms:Bool)(E:Env C w s0) :
  Calls Tryz.prog 246 #[.pointer (some ⟨C.pb,0,none⟩),.bool atoms] w
   (Post C.B [] [C.sb] w (zdv atoms C.t s0) (fun p v w'=>zbs w' w.heap.size v p.1∧Env C w' p.2)):=by
 have hp:=E.p.cell
 have HE:=zH E
 have hz:0<w.heap.size+1:=by omega
 clear E
 go_enter Tryz.func246,Tryz.ntmps246
 go_wp2_with (go_at_call 291;refine(zbc HE.out 41).mono ?_;rintro e w' ⟨rfl,rfl⟩)
 go_loopg [5,6] (if isM s0 41 then 0 else C.t.size+1) (fun n v5 v6 wr=>NamesRel C w (zfa atoms C.t s0) atoms n v5 v6 wr)
 case atStart =>
  refine⟨[],s0,isM s0 41,rfl,World.ownsRow_nil _ _ _ _,HE.out,Chg.refl _ _ _ _,Nat.zero_le _,?_⟩
  cases h:isM s0 41
  ·right
   refine⟨rfl,by simp;omega,?_⟩
   unfold zfa
   rw[h]
   simp only[Bool.false_eq_true,if_false,List.nil_append]
   cases zcg atoms C.t (C.t.size+1) s0 <;> rfl
  ·left
   refine⟨rfl,by simp,?_⟩
   unfold zfa
   rw[h];rfl
 case round =>
  obtain⟨acc,s,fl,rfl,hrow,hE,hch,hacc,hcase⟩:=hrel
  have HR:=zH hrow
  have HE1:=zH hE
  have HC:=zH hch
  have hpr:=hE.p.cell
  have hcr:=Blk.cell hE.sc
  have hpl:=hE.p.lt
  have hsl:=Blk.lt hE.sc
  have hacc':acc.length≤700:=Nat.le_trans hacc (Nat.le_trans hE.at_ hE.tsz)
  clear hrow hE hch hp
  rcases hcase with⟨rfl,hn,hM⟩ | ⟨rfl,hn,hM⟩
  ·have MD:=zH (show zdv atoms C.t s0=zab (za9 C.t s 41) fun s2=>.ok (acc,s2) by
    show zab (zfa atoms C.t s0) _=_
    rw[hM];rfl)
   clear hM hn
   go_wp2_with fail
   refine(zcu HE1.out 41).mono ?_
   rintro e w1 (⟨s1,v,hr,rfl,⟨rfl,hE1⟩,hch1⟩ | ⟨f,b,hr,rfl,hfb,hle,hch1⟩)
   ·have hR1:=zH (zcs HR.out hch1 (by simp) (by
     intro k hk
     have:=(HR.out.lt k hk).1
     have:=Blk.lt HE.out.sc
     simp;omega))
    have HRR:=zH hr
    have HE2:=zH hE1
    have HC2:=zH (HC.out.trans hch1)
    clear hr hE1 hch1
    go_wp2_with fail
    go_ret
    exact .inl ⟨(acc,s1),_,MD.out.trans (by rw[HRR.out];rfl),rfl,⟨hR1.out,HE2.out⟩,HC2.out⟩
   ·exact⟨rfl,.inr ⟨_,_,MD.out.trans (by rw[hr];rfl),rfl,hfb,Nat.le_trans HC.out.size hle,HC.out.trans hch1⟩⟩
  ·have MD:=zH hM
   have N:=zH hn
   clear hM hn
   cases atoms
   ·go_wp2_with fail
    refine(zf8 (HE1.out.alloc _)).mono ?_
    rintro e w1 (⟨p,v,hr,rfl,⟨rfl,hE1⟩,hch1⟩ | ⟨f,b,hr,rfl,hfb,hle,hch1⟩)
    ·have hn1:=Blk.chg (g:=wr.heap.size) (Blk.newAt rfl) hch1 (by simp) (by simp;omega)
     have hcn:=Blk.cell hn1
     have hfn:=Blk.frozen hn1
     have hR1:=zH (zcs (HR.out.alloc _) hch1 (by simp) (by
      intro k hk
      have:=(HR.out.lt k hk).1
      have:=Blk.lt HE.out.sc
      simp;omega))
     have HRR:=zH hr
     have HE2:=zH hE1
     have HC2:=zH ((HC.out.alloc _).trans hch1)
     have hpp:=hE1.p.cell
     have hz1:wr.heap.size<w1.heap.size:=hn1.lt
     clear hr hE1 hch1 hn1 hcr hpr
     go_wp2_with (at_builtin;refine zg8 ?_)
     refine zg2 ?_
     refine zra (fun W=>Below wr.heap.size w1 W∧Blk W w1.heap.size 220 (zdx p.1).toArray∧W.heap.size=w1.heap.size+1) ⟨by go_grown,Blk.newAt (by simp),by simp⟩ ?_
     rintro W ⟨hbw,hblk,hsW⟩
     have hRW:=zbz hR1.out hbw (fun k hk=>(HR.out.lt k hk).2)
     have hEW:=zH (Env.below HE2.out hbw hpl hsl)
     have hCW:=zH (zsv HC2.out hbw HC.out.size)
     refine zhc tyName rfl _ _ rfl w.heap.size _ acc.length (acc.flatMap zdx) _ _ _ hRW hblk rfl (by rfl) rfl (by simp[zdx,Value.oneCell']) (by omega) (by have:=HC.out.size;omega) ?_
     intro g cap w2 hrow2 hg2 hat2
     have hE3:=Env.append hEW.out hRW hg2 (by decide) (by decide)
     have hC3:=Chg.append hCW.out hRW hg2 (Nat.le_trans HE.out.bs (Nat.le_of_lt (Blk.lt HE.out.sc))) (.inr (Nat.le_refl _))
     clear hbw hblk hsW hRW
     have hpq:=hE3.p.cell
     have HE3:=zH hE3
     have HC3:=zH hC3
     have HR3:=zH hrow2
     clear hE3 hC3 hrow2 hg2 hat2 hcn hfn hpp
     cases his:isM p.2 41
     ·have HIS:=zH his
      clear his
      go_wp2_with (go_at_call 291;refine(zbc HE3.out 41).mono ?_;rw[HIS.out];rintro e w' ⟨rfl,rfl⟩)
      refine(zcu HE3.out 44).mono ?_
      rintro e w3 (⟨s2,v,hr,rfl,⟨rfl,hE4⟩,hch4⟩ | ⟨f,b,hr,rfl,hfb,hle,hch4⟩)
      ·have HR4:=zH (zcs HR3.out hch4 (by simp) (by
        intro k hk
        have:=(HR3.out.lt k hk).1
        have:=Blk.lt HE.out.sc
        simp;omega))
       have HW:=zH hr
       have HE4:=zH hE4
       have HC4:=zH (HC3.out.trans hch4)
       clear hr hE4 hch4
       go_wp2_with fail
       obtain⟨m,hm⟩:∃ m,gk=m+1:=⟨gk-1,by have:=N.out;omega⟩
       have hmd:=MD.out
       rw[hm]at hmd
       obtain⟨ha1,ha2⟩:=zse (a:=false) HRR.out HW.out HE1.out.at_
       go_roundg m
       case measure=>omega
       case rel =>
        refine⟨acc++[p.1],s2,false,rfl,?_,HE4.out,HC4.out,by simp;omega,.inr ⟨rfl,by have:=N.out;omega,zsq (a:=false) hmd HRR.out HIS.out HW.out⟩⟩
        have:=HR4.out
        simpa [zbs] using this
      ·obtain⟨m,hm⟩:∃ m,gk=m+1:=⟨gk-1,by have:=N.out;omega⟩
       have hmd:=MD.out
       rw[hm]at hmd
       exact⟨rfl,.inr ⟨_,_,zsd (a:=false) hmd HRR.out HIS.out hr,rfl,hfb,Nat.le_trans HC3.out.size hle,HC3.out.trans hch4⟩⟩
     ·have HIS:=zH his
      clear his
      go_wp2_with (go_at_call 291;refine(zbc HE3.out 41).mono ?_;rw[HIS.out];rintro e w' ⟨rfl,rfl⟩)
      obtain⟨m,hm⟩:∃ m,gk=m+1:=⟨gk-1,by have:=N.out;omega⟩
      have hmd:=MD.out
      rw[hm]at hmd
      have ha1:=zqp (a:=false) HRR.out HIS.out HE1.out.at_
      go_roundg 0
      case measure=>omega
      case rel =>
       refine⟨acc++[p.1],p.2,true,rfl,?_,HE3.out,HC3.out,by simp;omega,.inl ⟨rfl,rfl,zpq (a:=false) hmd HRR.out HIS.out⟩⟩
       have:=HR3.out
       simpa [zbs] using this
    ·obtain⟨m,hm⟩:∃ m,gk=m+1:=⟨gk-1,by have:=N.out;omega⟩
     have hmd:=MD.out
     rw[hm]at hmd
     exact⟨rfl,.inr ⟨_,_,zpu (a:=false) hmd hr,rfl,hfb,Nat.le_trans (HC.out.alloc _).size hle,(HC.out.alloc _).trans hch1⟩⟩
   ·go_wp2_with fail
    refine(zgt (HE1.out.alloc _)).mono ?_
    rintro e w1 (⟨p,v,hr,rfl,⟨rfl,hE1⟩,hch1⟩ | ⟨f,b,hr,rfl,hfb,hle,hch1⟩)
    ·have hn1:=Blk.chg (g:=wr.heap.size) (Blk.newAt rfl) hch1 (by simp) (by simp;omega)
     have hcn:=Blk.cell hn1
     have hfn:=Blk.frozen hn1
     have hR1:=zH (zcs (HR.out.alloc _) hch1 (by simp) (by
      intro k hk
      have:=(HR.out.lt k hk).1
      have:=Blk.lt HE.out.sc
      simp;omega))
     have HRR:=zH hr
     have HE2:=zH hE1
     have HC2:=zH ((HC.out.alloc _).trans hch1)
     have hpp:=hE1.p.cell
     have hz1:wr.heap.size<w1.heap.size:=hn1.lt
     clear hr hE1 hch1 hn1 hcr hpr
     go_wp2_with (at_builtin;refine zg8 ?_)
     refine zg2 ?_
     refine zra (fun W=>Below wr.heap.size w1 W∧Blk W w1.heap.size 220 (zdx p.1).toArray∧W.heap.size=w1.heap.size+1) ⟨by go_grown,Blk.newAt (by simp),by simp⟩ ?_
     rintro W ⟨hbw,hblk,hsW⟩
     have hRW:=zbz hR1.out hbw (fun k hk=>(HR.out.lt k hk).2)
     have hEW:=zH (Env.below HE2.out hbw hpl hsl)
     have hCW:=zH (zsv HC2.out hbw HC.out.size)
     refine zhc tyName rfl _ _ rfl w.heap.size _ acc.length (acc.flatMap zdx) _ _ _ hRW hblk rfl (by rfl) rfl (by simp[zdx,Value.oneCell']) (by omega) (by have:=HC.out.size;omega) ?_
     intro g cap w2 hrow2 hg2 hat2
     have hE3:=Env.append hEW.out hRW hg2 (by decide) (by decide)
     have hC3:=Chg.append hCW.out hRW hg2 (Nat.le_trans HE.out.bs (Nat.le_of_lt (Blk.lt HE.out.sc))) (.inr (Nat.le_refl _))
     clear hbw hblk hsW hRW
     have hpq:=hE3.p.cell
     have HE3:=zH hE3
     have HC3:=zH hC3
     have HR3:=zH hrow2
     clear hE3 hC3 hrow2 hg2 hat2 hcn hfn hpp
     cases his:isM p.2 41
     ·have HIS:=zH his
      clear his
      go_wp2_with (go_at_call 291;refine(zbc HE3.out 41).mono ?_;rw[HIS.out];rintro e w' ⟨rfl,rfl⟩)
      refine(zcu HE3.out 44).mono ?_
      rintro e w3 (⟨s2,v,hr,rfl,⟨rfl,hE4⟩,hch4⟩ | ⟨f,b,hr,rfl,hfb,hle,hch4⟩)
      ·have HR4:=zH (zcs HR3.out hch4 (by simp) (by
        intro k hk
        have:=(HR3.out.lt k hk).1
        have:=Blk.lt HE.out.sc
        simp;omega))
       have HW:=zH hr
       have HE4:=zH hE4
       have HC4:=zH (HC3.out.trans hch4)
       clear hr hE4 hch4
       go_wp2_with fail
       obtain⟨m,hm⟩:∃ m,gk=m+1:=⟨gk-1,by have:=N.out;omega⟩
       have hmd:=MD.out
       rw[hm]at hmd
       obtain⟨ha1,ha2⟩:=zse (a:=true) HRR.out HW.out HE1.out.at_
       go_roundg m
       case measure=>omega
       case rel =>
        refine⟨acc++[p.1],s2,false,rfl,?_,HE4.out,HC4.out,by simp;omega,.inr ⟨rfl,by have:=N.out;omega,zsq (a:=true) hmd HRR.out HIS.out HW.out⟩⟩
        have:=HR4.out
        simpa [zbs] using this
      ·obtain⟨m,hm⟩:∃ m,gk=m+1:=⟨gk-1,by have:=N.out;omega⟩
       have hmd:=MD.out
       rw[hm]at hmd
       exact⟨rfl,.inr ⟨_,_,zsd (a:=true) hmd HRR.out HIS.out hr,rfl,hfb,Nat.le_trans HC3.out.size hle,HC3.out.trans hch4⟩⟩
     ·have HIS:=zH his
      clear his
      go_wp2_with (go_at_call 291;refine(zbc HE3.out 41).mono ?_;rw[HIS.out];rintro e w' ⟨rfl,rfl⟩)
      obtain⟨m,hm⟩:∃ m,gk=m+1:=⟨gk-1,by have:=N.out;omega⟩
      have hmd:=MD.out
      rw[hm]at hmd
      have ha1:=zqp (a:=true) HRR.out HIS.out HE1.out.at_
      go_roundg 0
      case measure=>omega
      case rel =>
       refine⟨acc++[p.1],p.2,true,rfl,?_,HE3.out,HC3.out,by simp;omega,.inl ⟨rfl,rfl,zpq (a:=true) hmd HRR.out HIS.out⟩⟩
       have:=HR3.out
       simpa [zbs] using this
    ·obtain⟨m,hm⟩:∃ m,gk=m+1:=⟨gk-1,by have:=N.out;omega⟩
     have hmd:=MD.out
     rw[hm]at hmd
     exact⟨rfl,.inr ⟨_,_,zpu (a:=true) hmd hr,rfl,hfb,Nat.le_trans (HC.out.alloc _).size hle,(HC.out.alloc _).trans hch1⟩⟩
end
section
open Go.RowKit
def zbe (w:World)(B:Nat)(v:Value)(l:List Nat):Prop:=w.ownsRow B 3 1 v l.length (l.map fun n:Nat=>Value.int .i64 (n:Int))
def zbg (x:Stm)(av bv ev:Value):Array Value :=
 #[.int .i64 x.op,.int .i64 x.at_,.int .i64 x.mark,
  .string x.x.text,.int .i64 x.x.at_,.bool x.x.num,.int .i64 x.x.n,
  .string x.y.text,.int .i64 x.y.at_,.bool x.y.num,.int .i64 x.y.n,
  .string x.z.text,.int .i64 x.z.at_,.bool x.z.num,.int .i64 x.z.n,
  .string x.f.text,.int .i64 x.f.at_,.bool x.f.num,.int .i64 x.f.n,
  av,.int .i64 x.bin,.int .i64 x.field,.bool x.has,bv,ev]
def zad (w:World)(B xb:Nat)(x:Stm):Prop :=
 ∃ av bv ev,Blk w xb 439 (zbg x av bv ev)∧zbs w B av x.args∧zbe w B bv x.body∧zbe w B ev x.els
section
variable {w w1:World} {B xb:Nat} {x x':Stm}
theorem zad.blk (h:zad w B xb x):∃ cs,Blk w xb 439 cs:=by
 obtain⟨_,_,_,h,_⟩:=h
 exact⟨_,h⟩
theorem zad.lt (h:zad w B xb x):xb<w.heap.size:=by
 obtain⟨_,h⟩:=h.blk
 exact h.lt
theorem zad.ne {g:Nat}{t:TypeId}{cs:Array Value}(h:zad w B xb x)(hg:Blk w g t cs)(ht:t≠439):g≠xb:=by
 obtain⟨_,h⟩:=h.blk
 exact hg.ne_ h ht
theorem zc3 {e t:TypeId}{size g n:Nat}{v:Value}{ys:List Value}{cs:Array Value}(h:w.ownsRow B e size v n ys)(hg:Blk w g t cs)(hne:e≠t):∀ k,v.ownBlock=some k→k≠g:=by
 intro k hk
 rcases h.2 with⟨rfl,_⟩ | ⟨g',cap,cur,rfl,_,hh,_⟩
 ·simp[Value.ownBlock]at hk
 ·have:g'=k:=by simpa [Value.ownBlock] using hk
  subst this
  rintro rfl
  exact hne (Blk.inj (cs:=cur) hh hg).1
theorem zad.cells (h:zad w B xb x):∃ av bv ev,(∀ i,w.cell? ⟨xb,i,none⟩=#[.int .i64 x.op,.int .i64 x.at_,.int .i64 x.mark,
  .string x.x.text,.int .i64 x.x.at_,.bool x.x.num,.int .i64 x.x.n,
  .string x.y.text,.int .i64 x.y.at_,.bool x.y.num,.int .i64 x.y.n,
  .string x.z.text,.int .i64 x.z.at_,.bool x.z.num,.int .i64 x.z.n,
  .string x.f.text,.int .i64 x.f.at_,.bool x.f.num,.int .i64 x.f.n,
  av,.int .i64 x.bin,.int .i64 x.field,.bool x.has,bv,ev][i]?)∧(∀ i,w.frozen? ⟨xb,i,none⟩=false):=by
 obtain⟨av,bv,ev,h,_⟩:=h
 exact⟨av,bv,ev,h.cell,h.frozen⟩
theorem zad.chg {B':Nat}{ts:List TypeId}{xs:List Nat}(h:zad w B xb x)(hc:Chg B' ts xs w w1)(h1:439 ∉ ts)(h2:220 ∉ ts)(h3:3 ∉ ts)
  (hx:∀ g ∈ xs,∃ t cs,Blk w g t cs∧t≠439∧t≠220∧t≠3):zad w1 B xb x:=by
 obtain⟨av,bv,ev,hb,ha,hb',he⟩:=h
 refine⟨av,bv,ev,hb.chg hc h1 ?_,zcs ha hc h2 ?_,zcs hb' hc h3 ?_,zcs he hc h3 ?_⟩
 ·intro hm
  obtain⟨t,cs,h4,h5,_,_⟩:=hx _ hm
  exact h5 (Blk.inj h4 hb).1
 ·intro k hk hm
  obtain⟨t,cs,h4,_,h5,_⟩:=hx _ hm
  exact zc3 ha h4 (fun e=>h5 e.symm) k hk rfl
 ·intro k hk hm
  obtain⟨t,cs,h4,_,_,h5⟩:=hx _ hm
  exact zc3 hb' h4 (fun e=>h5 e.symm) k hk rfl
 ·intro k hk hm
  obtain⟨t,cs,h4,_,_,h5⟩:=hx _ hm
  exact zc3 he h4 (fun e=>h5 e.symm) k hk rfl
theorem zad.set1 (h:zad w B xb x)(i:Nat)(u:Value)(hx:∀ av bv ev,(zbg x av bv ev).setIfInBounds i u=zbg x' av bv ev)(ha:x'.args=x.args)(hb:x'.body=x.body)(he:x'.els=x.els) :
  zad (w.setCell ⟨xb,i,none⟩ u) B xb x':=by
 obtain⟨av,bv,ev,h0,h1,h2,h3⟩:=h
 refine⟨av,bv,ev,(h0.set_ i u).cast (hx _ _ _),?_,?_,?_⟩
 ·rw[ha];exact zaj h1 h0 (by decide) i u
 ·rw[hb];exact zaj h2 h0 (by decide) i u
 ·rw[he];exact zaj h3 h0 (by decide) i u
theorem zad.setOp (h:zad w B xb x)(n:Nat):zad (w.setCell ⟨xb,0,none⟩ (.int .i64 n)) B xb { x with op:=n }:=h.set1 0 _ (fun _ _ _=>by simp[zbg]) rfl rfl rfl
theorem zad.setMark (h:zad w B xb x)(n:Nat):zad (w.setCell ⟨xb,2,none⟩ (.int .i64 n)) B xb { x with mark:=n }:=h.set1 2 _ (fun _ _ _=>by simp[zbg]) rfl rfl rfl
theorem zad.setBin (h:zad w B xb x)(n:Nat):zad (w.setCell ⟨xb,20,none⟩ (.int .i64 n)) B xb { x with bin:=n }:=h.set1 20 _ (fun _ _ _=>by simp[zbg]) rfl rfl rfl
theorem zad.setField (h:zad w B xb x)(n:Nat):zad (w.setCell ⟨xb,21,none⟩ (.int .i64 n)) B xb { x with field:=n }:=h.set1 21 _ (fun _ _ _=>by simp[zbg]) rfl rfl rfl
theorem zad.setHas (h:zad w B xb x)(b:Bool):zad (w.setCell ⟨xb,22,none⟩ (.bool b)) B xb { x with has:=b }:=h.set1 22 _ (fun _ _ _=>by simp[zbg]) rfl rfl rfl
theorem zad.setX (h:zad w B xb x)(n:Nm):zad ((((w.setCell ⟨xb,3,none⟩ (.string n.text)).setCell ⟨xb,4,none⟩ (.int .i64 n.at_)).setCell ⟨xb,5,none⟩ (.bool n.num)).setCell ⟨xb,6,none⟩ (.int .i64 n.n)) B xb { x with x:=n } :=
 ((((h.set1 (x':={ x with x:={ x.x with text:=n.text } }) 3 _ (fun _ _ _=>by simp[zbg]) rfl rfl rfl).set1 (x':={ x with x:={ x.x with text:=n.text,at_:=n.at_ } }) 4 _ (fun _ _ _=>by simp[zbg]) rfl rfl rfl).set1 (x':={ x with x:={ x.x with text:=n.text,at_:=n.at_,num:=n.num } }) 5 _ (fun _ _ _=>by simp[zbg]) rfl rfl rfl).set1 (x':={ x with x:=n }) 6 _ (fun _ _ _=>by simp[zbg]) rfl rfl rfl)
theorem zad.setY (h:zad w B xb x)(n:Nm):zad ((((w.setCell ⟨xb,7,none⟩ (.string n.text)).setCell ⟨xb,8,none⟩ (.int .i64 n.at_)).setCell ⟨xb,9,none⟩ (.bool n.num)).setCell ⟨xb,10,none⟩ (.int .i64 n.n)) B xb { x with y:=n } :=
 ((((h.set1 (x':={ x with y:={ x.y with text:=n.text } }) 7 _ (fun _ _ _=>by simp[zbg]) rfl rfl rfl).set1 (x':={ x with y:={ x.y with text:=n.text,at_:=n.at_ } }) 8 _ (fun _ _ _=>by simp[zbg]) rfl rfl rfl).set1 (x':={ x with y:={ x.y with text:=n.text,at_:=n.at_,num:=n.num } }) 9 _ (fun _ _ _=>by simp[zbg]) rfl rfl rfl).set1 (x':={ x with y:=n }) 10 _ (fun _ _ _=>by simp[zbg]) rfl rfl rfl)
theorem zad.setZ (h:zad w B xb x)(n:Nm):zad ((((w.setCell ⟨xb,11,none⟩ (.string n.text)).setCell ⟨xb,12,none⟩ (.int .i64 n.at_)).setCell ⟨xb,13,none⟩ (.bool n.num)).setCell ⟨xb,14,none⟩ (.int .i64 n.n)) B xb { x with z:=n } :=
 ((((h.set1 (x':={ x with z:={ x.z with text:=n.text } }) 11 _ (fun _ _ _=>by simp[zbg]) rfl rfl rfl).set1 (x':={ x with z:={ x.z with text:=n.text,at_:=n.at_ } }) 12 _ (fun _ _ _=>by simp[zbg]) rfl rfl rfl).set1 (x':={ x with z:={ x.z with text:=n.text,at_:=n.at_,num:=n.num } }) 13 _ (fun _ _ _=>by simp[zbg]) rfl rfl rfl).set1 (x':={ x with z:=n }) 14 _ (fun _ _ _=>by simp[zbg]) rfl rfl rfl)
theorem zad.setF (h:zad w B xb x)(n:Nm):zad ((((w.setCell ⟨xb,15,none⟩ (.string n.text)).setCell ⟨xb,16,none⟩ (.int .i64 n.at_)).setCell ⟨xb,17,none⟩ (.bool n.num)).setCell ⟨xb,18,none⟩ (.int .i64 n.n)) B xb { x with f:=n } :=
 ((((h.set1 (x':={ x with f:={ x.f with text:=n.text } }) 15 _ (fun _ _ _=>by simp[zbg]) rfl rfl rfl).set1 (x':={ x with f:={ x.f with text:=n.text,at_:=n.at_ } }) 16 _ (fun _ _ _=>by simp[zbg]) rfl rfl rfl).set1 (x':={ x with f:={ x.f with text:=n.text,at_:=n.at_,num:=n.num } }) 17 _ (fun _ _ _=>by simp[zbg]) rfl rfl rfl).set1 (x':={ x with f:=n }) 18 _ (fun _ _ _=>by simp[zbg]) rfl rfl rfl)
theorem zad.setArgs (h:zad w B xb x){v:Value}{l:List Nm}(hl:zbs w B v l):zad (w.setCell ⟨xb,19,none⟩ v) B xb { x with args:=l }:=by
 obtain⟨av,bv,ev,h0,h1,h2,h3⟩:=h
 exact⟨v,bv,ev,(h0.set_ 19 v).cast (by simp[zbg]),zaj hl h0 (by decide) _ _,zaj h2 h0 (by decide) _ _,zaj h3 h0 (by decide) _ _⟩
theorem zad.setBody (h:zad w B xb x){v:Value}{l:List Nat}(hl:zbe w B v l):zad (w.setCell ⟨xb,23,none⟩ v) B xb { x with body:=l }:=by
 obtain⟨av,bv,ev,h0,h1,h2,h3⟩:=h
 exact⟨av,v,ev,(h0.set_ 23 v).cast (by simp[zbg]),zaj h1 h0 (by decide) _ _,zaj hl h0 (by decide) _ _,zaj h3 h0 (by decide) _ _⟩
theorem zad.setEls (h:zad w B xb x){v:Value}{l:List Nat}(hl:zbe w B v l):zad (w.setCell ⟨xb,24,none⟩ v) B xb { x with els:=l }:=by
 obtain⟨av,bv,ev,h0,h1,h2,h3⟩:=h
 exact⟨av,bv,v,(h0.set_ 24 v).cast (by simp[zbg]),zaj h1 h0 (by decide) _ _,zaj h2 h0 (by decide) _ _,zaj hl h0 (by decide) _ _⟩
theorem zad.alloc (h:zad w B xb x)(o:Obj):zad (w.alloc o) B xb x:=by
 obtain⟨av,bv,ev,h0,h1,h2,h3⟩:=h
 exact⟨av,bv,ev,h0.alloc o,h1.alloc o,h2.alloc o,h3.alloc o⟩
theorem zad.drewN (h:zad w B xb x)(n:Nat):zad (w.drewN n) B xb x:=h
end
theorem zad.scan {C:PC}{w w1:World}{s:Sc}{B xb:Nat}{x:Stm}(h:zad w B xb x)(E:Env C w s)(hc:Chg C.B [] [C.sb] w w1):zad w1 B xb x :=
 h.chg hc (by simp) (by simp) (by simp) (fun g hg=>⟨_,_,(List.mem_singleton.1 hg) ▸ E.sc,by decide,by decide,by decide⟩)
theorem zag {P:Program}{f:FuncId}{args:Array Value}{w:World}{R:Ending→World→Prop}(X:World→Prop)(hx:X w)(h:∀ w1,X w1→Calls P f args w1 R):Calls P f args w R:=h w hx
structure SEnv (C:PC)(xb:Nat)(w0 w:World)(s:Sc)(x:Stm):Prop where
 e:Env C w s
 x:zad w C.rb xb x
 rbw:C.rb≤w.heap.size
 c:Chg C.B [] [C.sb,xb] w0 w
 bx:C.B≤xb
section
variable {C:PC} {xb:Nat} {w0 w w1:World} {s s1:Sc} {x:Stm}
theorem SEnv.ne (S:SEnv C xb w0 w s x):C.pb≠xb∧C.sb≠xb:=⟨S.x.ne S.e.p (by decide),S.x.ne S.e.sc (by decide)⟩
theorem SEnv.scan (S:SEnv C xb w0 w s x)(E:Env C w1 s1)(hc:Chg C.B [] [C.sb] w w1):SEnv C xb w0 w1 s1 x :=
 ⟨E,S.x.scan S.e hc,Nat.le_trans S.rbw hc.size,S.c.trans (hc.mono (by simp) (by simp)),S.bx⟩
theorem SEnv.cells (S:SEnv C xb w0 w s x):(∀ i,w.cell? ⟨C.pb,i,none⟩=#[.pointer (some ⟨C.sb,0,none⟩),.pointer (some ⟨C.tb,0,none⟩)][i]?)∧(∀ i,w.cell? ⟨C.sb,i,none⟩=#[.string C.t,.int .i64 s.at_,.int .i64 s.kind,.string s.tok.text,.int .i64 s.tok.at_,.bool s.tok.num,.int .i64 s.tok.n,.int .u8 s.sign.toNat][i]?)∧(∀ i,w.frozen? ⟨xb,i,none⟩=false):=by
 refine⟨S.e.p.cell,Blk.cell S.e.sc,?_⟩
 obtain⟨_,h⟩:=S.x.blk
 exact h.frozen
theorem SEnv.lts (S:SEnv C xb w0 w s x):C.pb<w.heap.size∧C.sb<w.heap.size∧xb<w.heap.size:=⟨S.e.p.lt,Blk.lt S.e.sc,S.x.lt⟩
theorem SEnv.store (S:SEnv C xb w0 w s x){x':Stm}(i:Nat)(u:Value)(h:zad (w.setCell ⟨xb,i,none⟩ u) C.rb xb x'):SEnv C xb w0 (w.setCell ⟨xb,i,none⟩ u) s x' :=
 ⟨S.e.far S.ne.1 S.ne.2 u,h,by simpa using S.rbw,S.c.setX S.bx (by simp) u,S.bx⟩
theorem SEnv.setOp (S:SEnv C xb w0 w s x)(n:Nat):SEnv C xb w0 (w.setCell ⟨xb,0,none⟩ (.int .i64 n)) s { x with op:=n }:=S.store _ _ (S.x.setOp n)
theorem SEnv.setMark (S:SEnv C xb w0 w s x)(n:Nat):SEnv C xb w0 (w.setCell ⟨xb,2,none⟩ (.int .i64 n)) s { x with mark:=n }:=S.store _ _ (S.x.setMark n)
theorem SEnv.setBin (S:SEnv C xb w0 w s x)(n:Nat):SEnv C xb w0 (w.setCell ⟨xb,20,none⟩ (.int .i64 n)) s { x with bin:=n }:=S.store _ _ (S.x.setBin n)
theorem SEnv.setField (S:SEnv C xb w0 w s x)(n:Nat):SEnv C xb w0 (w.setCell ⟨xb,21,none⟩ (.int .i64 n)) s { x with field:=n }:=S.store _ _ (S.x.setField n)
theorem SEnv.setHas (S:SEnv C xb w0 w s x)(b:Bool):SEnv C xb w0 (w.setCell ⟨xb,22,none⟩ (.bool b)) s { x with has:=b }:=S.store _ _ (S.x.setHas b)
theorem SEnv.setArgs (S:SEnv C xb w0 w s x){v:Value}{l:List Nm}(hl:zbs w C.rb v l):SEnv C xb w0 (w.setCell ⟨xb,19,none⟩ v) s { x with args:=l }:=S.store _ _ (S.x.setArgs hl)
theorem SEnv.far4 (S:SEnv C xb w0 w s x){x':Stm}{i j k l:Nat}{a b c d:Value}(h:zad ((((w.setCell ⟨xb,i,none⟩ a).setCell ⟨xb,j,none⟩ b).setCell ⟨xb,k,none⟩ c).setCell ⟨xb,l,none⟩ d) C.rb xb x') :
  SEnv C xb w0 ((((w.setCell ⟨xb,i,none⟩ a).setCell ⟨xb,j,none⟩ b).setCell ⟨xb,k,none⟩ c).setCell ⟨xb,l,none⟩ d) s x' :=
 ⟨(((S.e.far S.ne.1 S.ne.2 _).far S.ne.1 S.ne.2 _).far S.ne.1 S.ne.2 _).far S.ne.1 S.ne.2 _,h,by simpa using S.rbw,(((S.c.setX S.bx (by simp) _).setX S.bx (by simp) _).setX S.bx (by simp) _).setX S.bx (by simp) _,S.bx⟩
theorem SEnv.setX (S:SEnv C xb w0 w s x)(n:Nm):SEnv C xb w0 ((((w.setCell ⟨xb,3,none⟩ (.string n.text)).setCell ⟨xb,4,none⟩ (.int .i64 n.at_)).setCell ⟨xb,5,none⟩ (.bool n.num)).setCell ⟨xb,6,none⟩ (.int .i64 n.n)) s { x with x:=n }:=S.far4 (S.x.setX n)
theorem SEnv.setY (S:SEnv C xb w0 w s x)(n:Nm):SEnv C xb w0 ((((w.setCell ⟨xb,7,none⟩ (.string n.text)).setCell ⟨xb,8,none⟩ (.int .i64 n.at_)).setCell ⟨xb,9,none⟩ (.bool n.num)).setCell ⟨xb,10,none⟩ (.int .i64 n.n)) s { x with y:=n }:=S.far4 (S.x.setY n)
theorem SEnv.setZ (S:SEnv C xb w0 w s x)(n:Nm):SEnv C xb w0 ((((w.setCell ⟨xb,11,none⟩ (.string n.text)).setCell ⟨xb,12,none⟩ (.int .i64 n.at_)).setCell ⟨xb,13,none⟩ (.bool n.num)).setCell ⟨xb,14,none⟩ (.int .i64 n.n)) s { x with z:=n }:=S.far4 (S.x.setZ n)
theorem SEnv.setF (S:SEnv C xb w0 w s x)(n:Nm):SEnv C xb w0 ((((w.setCell ⟨xb,15,none⟩ (.string n.text)).setCell ⟨xb,16,none⟩ (.int .i64 n.at_)).setCell ⟨xb,17,none⟩ (.bool n.num)).setCell ⟨xb,18,none⟩ (.int .i64 n.n)) s { x with f:=n }:=S.far4 (S.x.setF n)
end
theorem SEnv.fault {C:PC}{xb:Nat}{w0 w w1:World}{s:Sc}{x:Stm}(S:SEnv C xb w0 w s x){α : Type}{M:Except Flt α}{K:α → Value→World→Prop}{f:Flt}{b:Nat}(hM:M=.error f)(hfb:za1 w1 b f)(hle:w.heap.size≤b)(hc:Chg C.B [] [C.sb] w w1) :
  Post C.B [] [C.sb,xb] w0 M K (.panicked (zfm b)) w1 :=
 .inr ⟨f,b,hM,rfl,hfb,Nat.le_trans S.c.size hle,S.c.trans (hc.mono (by simp) (by simp))⟩
end
end Go.Proofs.YtkmcihhndgdhpaaGreat
