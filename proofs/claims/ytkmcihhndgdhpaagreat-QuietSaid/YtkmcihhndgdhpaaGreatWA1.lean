/- Parts of the walk. -/
import Derived.Test.YtkmcihhndgdhpaaGreatWA0
import Derived.Deep.RegionWith
import Derived.StillTailTactics
import Derived.Handy
set_option maxRecDepth 100000
set_option maxHeartbeats 4000000
set_option linter.unusedSimpArgs false
set_option linter.unusedVariables false
open Go.RowKit Go.Proofs.Tryz
namespace Go.Proofs.YtkmcihhndgdhpaaGreat
variable {t:ByteArray}{s s':Sc}{k e B n g:Nat}{c:UInt8}{p:Nm×Sc}{v:Value}{a:Bool}{l:List Nat}{w:World}{cs:Array Value}
theorem mEa {p:Prop}(h:p:=by
  go_wp2_with fail;refine xh (fun w1=>ScAt w1 sb t { at_:=j,kind:=1,tok:={ at_:=k },sign:=sg }/\Chg B [] [sb] w w1) ⟨((Blk.drewN HS.o _).qe _ _).cast yy,(HC.o.drewN _).setX hB yy _⟩ ?_;clear hcr hfr HS HC;rintro w1 ⟨hs1,hch1⟩;have hc1:=Blk.cell hs1;have hf1:=Blk.frozen hs1;have HS:=zH hs1;have HC:=zH hch1;clear hs1 hch1;have hkj:(k:Int)<=j:=yo;have hjt:(j:Int)<=t.size:=yo;go_still_tail 11,yk
  change wpList _ _ _ _ _ w1.drew
  go_wp2_with fail;refine xh (fun w1=>ScAt w1 sb t { at_:=j,kind:=1,tok:={ text:=t.extract k j,at_:=k },sign:=sg }/\Chg B [] [sb] w w1) ⟨((Blk.drew HS.o).qe _ _).cast yy,(HC.o.drew).setX hB yy _⟩ ?_;clear hc1 hf1 HS HC;rintro w1 ⟨hs1,hch1⟩;have hc1:=Blk.cell hs1;have hf1:=Blk.frozen hs1;have HS:=zH hs1;have HC:=zH hch1;clear hs1 hch1;cases hkw:zgo (t.extract k j)
  all_goals
   have HKW:=zH hkw;clear hkw;have hsz:=zH (show(t.extract k j).size<=maxLen from sz_ok (by rw[ByteArray.size_extract];omega));go_region_held3 (fun w'=>w'.cell? (.a sb 3)=some (.string (t.extract k j))/\zdl B w sb t { at_:=j,kind:=1,tok:={ text:=t.extract k j,at_:=k },sign:=sg } w') (first | exact⟨hc3,hk3⟩ | exact⟨hc1 3,Blk.drew HS.o,HC.o.drew⟩ | go_keep)
    (first | (go_at_call 290;refine(zuj _).mono ?_;rintro e w3 ⟨rfl,hm3,hb3⟩;have hlk:=zuk (b:=w1.heap.size) hm3 hsz.o;rw[HKW.o]at hlk;simp only[yI,if_false,if_true]at hlk;have hk3:zdl B w sb t { at_:=j,kind:=1,tok:={ text:=t.extract k j,at_:=k },sign:=sg } w3:=zdl.below ⟨Blk.drew HS.o,HC.o.drew⟩ hb3;have hc3:=zdl.text hk3))
   clear hc1 hf1 hlk hc3 hm3;have HK:=zH hk3;have hcz:=Blk.cell hk3.1;have hfz:=Blk.frozen hk3.1;clear hk3 hb3;have hsz3:=HK.o.2.size;by_cases hl:6<j-k
   ·have hf1:Hid (zdw t k sg=.error ⟨3,k⟩):=by unfold zdw;simp only[ST.o];exact yj hl
    go_wp2_with (go_at_call 157;refine(zd5 _ _ _).mono ?_;rintro e w4 ⟨rfl,rfl⟩);refine⟨rfl,.inr ⟨⟨3,k⟩,_,hf1.o,rfl,zf.new yy,?_,?_⟩⟩
    ·first | exact hsz3 | (simp only[World.size_setCell];exact hsz3)
    ·first | exact HK.o.2.alloc _ | exact(HK.o.2.setX hB yy _).alloc _
   ·have hf1:Hid (zdw t k sg=.ok { at_:=j,kind:=if zgo (t.extract k j)then 4 else 1,tok:={ text:=t.extract k j,at_:=k },sign:=sg }):=by unfold zdw;simp only[ST.o];exact yg hl
    rw[HKW.o]at hf1;go_wp2;go_end0;refine .inl ⟨_,_,hf1.o,rfl,⟨rfl,?_⟩,?_⟩
    ·first | exact HK.o.1 | exact(Blk.qe HK.o.1 _ _).cast yy
    ·first | exact HK.o.2 | exact HK.o.2.setX hB yy _):p:=h
theorem mAb {p:Prop}(h:p:=by
  rintro e w4 (⟨s',v,hr,rfl,⟨rfl,hs'⟩,hch'⟩ | ⟨f,b,hr,rfl,hfb,hle,hch'⟩)
  ·have HR:=zH hr;have HS':=zH hs';have HC':=zH hch';clear hr hs' hch';go_wp2;go_end0;exact .inl ⟨_,_,hf1.o.trans HR.o,rfl,⟨rfl,HS'.o⟩,(HC1.o.drewN _).trans HC'.o⟩
  ·exact⟨rfl,.inr ⟨_,_,hf1.o.trans hr,rfl,hfb,ya HC1.o.size hle,(HC1.o.drewN _).trans hch'⟩⟩):p:=h
theorem mEb {p:Prop}(h:p:=by
  clear h hk hx hk1;go_enter func242,ntmps242;go_wp2_with fail;refine xh (fun w1=>ScAt w1 sb t { at_:=k1,kind:=3,tok:={ at_:=k },sign:=61 }/\Chg B [] [sb] w w1) ⟨(((Blk.qe H.o _ _).qe _ _).qe _ _).cast (by rw[K1.o];simp),(((Chg.refl _ _ _ _).setX hB yy _).setX hB yy _).setX hB yy _⟩ ?_;rintro w1 ⟨h1,hch⟩;clear hc hf;have hc:=Blk.cell h1;have hf:=Blk.frozen h1;have H1:=zH h1;have HC:=zH hch;clear h1 hch;go_quiet (fail);go_wp2;go_end0;refine .inl ⟨_,_,hf1.o,rfl,⟨rfl,?_⟩,HC.o.drewN _⟩;exact(Blk.drewN H1.o _).cast (by rw[K1.o])):p:=h
theorem mPb {p:Prop}(h:p:=by
  injection h4 with h4;subst h4;refine⟨?_,b2.2⟩;unfold zct;refine .cons zlh ⟨hx.1.x,b1.1,hx.1.z,hx.1.f,hx.1.args⟩ (b2.1.mono fun j x _ _=>zlj j x) ?_ ?_ (n:=k+1+b.1.2.length)
  ·simp only[hx.2.2];exact .nil _
  ·rw[yai,show k+(b.1.2.length+1)=k+1+b.1.2.length by omega];exact .nil _):p:=h
theorem mWb {p:Prop}(h:p:=by
  refine .inl ⟨_,_,hf1.o.trans (by rw[HR.o];rfl),rfl,⟨rfl,?_⟩,?_⟩
  ·exact((((Blk.qi HS'.o (by simp;omega) _).qi (by simp;omega) _).qi (by simp;omega) _).qi (by simp;omega) _)
  ·exact(((HC'.o.vi yy _).vi yy _).vi yy _).vi yy _):p:=h
theorem mXb {p:Prop}(h:p:=by
  go_wp2;go_roundg (t.size-(j+1))
  case measure=>have:=N.o;omega
  case rel =>
   refine⟨j+1,rfl,by omega,by omega,E.o.trans ST.o,?_,?_⟩
   ·exact((Blk.drewN HS.o _).qe _ _).cast yy
   ·exact(HC.o.drewN _).setX hB yy _):p:=h
theorem mBc {p:Prop}(h:p:=by
  go_wp2;go_end0;refine .inl ⟨_,_,hf1.o,rfl,⟨rfl,?_⟩,?_⟩
  ·exact((((Blk.drewN HS.o _).qe _ _).qe _ _).qe _ _).cast yy
  ·exact((((HC.o.drewN _).setX hB yy _).setX hB yy _).setX hB yy _)):p:=h
theorem mHc {p:Prop}(h:p:=by
  go_wp2_with (go_at_call 157;refine(zd5 _ _ _).mono ?_;rintro e w4 ⟨rfl,rfl⟩);exact⟨rfl,.inr ⟨_,_,hf1.o,rfl,zf.new yy,yo,(((Chg.refl _ _ _ _).alloc _).alloc _).alloc _⟩⟩):p:=h
theorem mKc {p:Prop}(h:p:=by exact⟨rfl,.inr ⟨_,_,hf1.o.trans (by rw[hr];rfl),rfl,hfb,ya (((Chg.refl B [] [] w).alloc _).alloc _).size hle,(((Chg.refl _ _ _ _).alloc _).alloc _).trans hch'⟩⟩):p:=h
def kwMap:List (ByteArray×Int):=znq.map fun l=>(⟨l.toArray⟩,1)
theorem zrl:zaw prog 9 (fun s:ByteArray=>Value.string s) (fun s=>s.size<=maxLen):=strKey underlying9
theorem sz_ok {s:ByteArray}(h:s.size<=1000):s.size<=maxLen:=by unfold maxLen;omega
def zok (w:World)(b:Nat)(m:List (ByteArray×Int)):Prop:=zG w b (fun s:ByteArray=>Value.string s) (fun s=>s.size<=maxLen) (fun n:Int=>Value.int .i64 n) m
theorem zuj (w:World):Calls prog 290 #[] w fun e w'=>e=.r (.m w.heap.size)/\zok w' w.heap.size kwMap/\Below w.heap.size w w':=by
 have H:=@run_makeMap prog;have hl:zok (w.alloc (.map #[] 0)) w.heap.size []:=zG.made w _ _ _;have D:Below w.heap.size w (w.alloc (.map #[] 0)):=yB.alloc yL _;have G:w.heap.size<=(w.alloc (.map #[] 0)).heap.size:=by simp
 go_enter func290,ntmps290;go_wp2_with (refine z1k rfl _ _ _ 212 9 3 rfl zrl underlying212 _ _ _ _ _ hl (by rfl) (by rfl) (by rfl) (sz_ok yd) ?_;clear hl;intro I hl A E;replace D:=D.grown A G yy;replace G:w.heap.size<=I.heap.size:=yo;clear A E);go_ret;exact⟨rfl,hl,D⟩
theorem kw_get (x:ByteArray):mget kwMap x=if zgo x then some 1 else none:=by
 have h:∀ l:List (List UInt8),mget (l.map fun k=>((⟨k.toArray⟩:ByteArray),(1:Int))) x=if l.contains x.data.toList then some 1 else none:=by
  intro l
  induction l with
  | nil=>rfl
  | cons a r ih =>
   simp only[yT,mget,ih,List.contains_cons];by_cases h:(⟨a.toArray⟩:ByteArray)=x
   ·rw[yj h];subst h;simp
   ·rw[yg h];have:(x.data.toList==a)=false:=by
     rw[beq_eq_false_iff_ne];intro e;apply h;rw[<- e]
    rw[this,yc5]
 exact h znq
theorem zero_int (w:World):(zeroValue 3).run prog w=.ok (.i 0) w:=yk
theorem zuk {w3:World}{b:Nat}{x:ByteArray}(hm:zok w3 b kwMap)(hx:x.size<=maxLen) :
  (Instr.lookup 212 (.m b) (.string x) false).run prog w3=.ok (.i (if zgo x then 1 else 0)) w3:=by
 have h:=zG.lookup hm zrl underlying212 (zero_int w3) (x:=x) hx false;rw[kw_get]at h;cases hk:zgo x <;> rw[hk]at h <;> exact h
def ScMove (B:Nat)(w:World)(sb:Nat)(t:ByteArray)(k:Nat)(sg:UInt8)(p:UInt8->Bool)(j:Nat)(wr:World):Prop :=
 k<=j/\j<=t.size/\zl p t k=zl p t j/\ScAt wr sb t { at_:=j,kind:=0,tok:={ at_:=k },sign:=sg }/\Chg B [] [sb] w wr
def zdl (B:Nat)(w:World)(sb:Nat)(t:ByteArray)(s:Sc)(w':World):Prop:=ScAt w' sb t s/\Chg B [] [sb] w w'
theorem zdl.below {sb:Nat}{w1 w2:World}(h:zdl B w sb t s w1)(hb:Below w1.heap.size w1 w2):zdl B w sb t s w2 :=
 ⟨Blk.below h.1 hb h.1.lt,h.2.trans (Chg.qz hb yL _ _ _)⟩
theorem zdl.text {sb:Nat}{w1:World}(h:zdl B w sb t s w1):w1.cell? (.a sb 3)=some (.string s.tok.text):=by
 rw[Blk.cell h.1];rfl
theorem name_any (B:Nat)(w:World)(sb:Nat)(t:ByteArray)(k:Nat)(sg:UInt8)(hB:B<=sb)(hk:k<t.size)(ht:t.size<=700)
  (h:ScAt w sb t { at_:=k,kind:=0,tok:={ at_:=k },sign:=sg }) :
  Calls prog 240 #[.p sb] w (Post B [] [sb] w (zdw t k sg) (fun s' v w'=>v=.tuple #[]/\ScAt w' sb t s')):=by
 have Q:=Blk.cell h;have hf:=Blk.frozen h;have H:=zH h;clear h;go_enter func240,ntmps240;go_wp2_with fail;go_loopg [] (t.size-k) (fun n wr=>∃ j:Nat,n=t.size-j/\ScMove B w sb t k sg zd7 j wr)
 case atStart=>exact⟨k,rfl,yr _,by omega,rfl,H.o,Chg.refl _ _ _ _⟩
 case round =>
  obtain⟨j,hn,U,O,L,I,K⟩:=hrel;have N:=zH hn;have E:=zH L;have hcr:=Blk.cell I;have hfr:=Blk.frozen I;have HS:=zH I;have HC:=zH K;clear I K L hn Q hf;have hx:=zog zd7 t j O;rcases hx with⟨G,D,A⟩ | ⟨G,D,A⟩ | ⟨S,A⟩
  ·have hb:=zgm t j G;have ST:=zH A;have J:=zu3 D;clear D A;rcases J with I | ⟨I,R⟩
   all_goals
    go_wp2_with fail;go_quiet (fail);go_wp2_with fail;go_quiet ((go_at_call 238;first | exact zav (zhw _ _) | exact zbw (zhw _ _)));go_wp2_with fail;go_quiet ((go_at_call 239;first | exact zav (zdp _ _) | exact zbw (zdp _ _)));exact mXb
  ·have hb:=zgm t j G;have ST:=zH (E.o.trans A);obtain⟨I,R⟩:=alnum_no D;clear D A;go_wp2_with fail;go_quiet (fail);go_wp2_with fail;go_quiet ((go_at_call 238;first | exact zav (zhw _ _) | exact zbw (zhw _ _)));go_wp2_with fail;go_quiet ((go_at_call 239;first | exact zav (zdp _ _) | exact zbw (zdp _ _)));exact mEa
  ·have ST:=zH (E.o.trans A);clear A;go_wp2_with fail;go_quiet (fail);exact mEa
theorem zsk (t:ByteArray)(k:Nat):zeu t k k=0:=by simp[zeu]
theorem zsl (t:ByteArray)(k j:Nat)(hk:k<=j)(hj:j<t.size):zeu t k (j+1)=10*zeu t k j+((zw t j).toNat-48):=by
 have h2:j<t.data.toList.length:=by simpa using hj
 have e:zw t j=t.data.toList[j]:=by
  unfold zw;rw[yab,yc h2];rfl
 unfold zeu;have A:j+1-k=(j-k)+1:=yo;rw[A,List.take_succ_eq_append_getElem (by rw[List.length_drop];omega),List.foldl_append];simp only[List.foldl_cons,List.foldl_nil,List.getElem_drop,e];congr 3;simp only[show k+(j-k)=j by omega]
theorem zre (h:za0 c=true):48<=c.toNat/\c.toNat<=57:=by
 unfold za0 at h;simp[UInt8.le_iff_toNat_le]at h;exact h
def Digs (t:ByteArray)(k j:Nat):Prop:=∀ i,k<=i->i<j->za0 (zw t i)=true
theorem zsj (t:ByteArray)(k:Nat):∀ (d:Nat),k+d<=t.size->Digs t k (k+d)->zeu t k (k+d)<10 ^ d
 | 0,_,_=>by rw[Nat.add_zero,zsk];simp
 | d+1,h,hd=>by
  have A:=zsj t k d yo (fun i h1 h2=>hd i h1 yo);have hb:=zre (hd (k+d) yo yo);have:=zsl t k (k+d) yo yo;rw[<- yc4,this,Nat.pow_succ];omega
theorem zyu {j:Nat}(hk:k<=j)(hj:j<=t.size)(hd:Digs t k j)(h6:j-k<=6):zeu t k j<1000000:=by
 obtain⟨d,rfl⟩:∃ d,j=k+d:=⟨j-k,by omega⟩;have h:=zsj t k d hj hd;have h2:10 ^ d<=10 ^ 6:=yO yo yo;omega
def NumRel (B:Nat)(w:World)(sb:Nat)(t:ByteArray)(k:Nat)(sg:UInt8)(n:Nat)(v:Value)(wr:World):Prop :=
 ∃ j:Nat,n=t.size-j/\ScMove B w sb t k sg za0 j wr/\j-k<=6/\Digs t k j/\v=.i (zeu t k j)
theorem zyv (B:Nat)(w:World)(sb:Nat)(t:ByteArray)(k:Nat)(sg:UInt8)(hB:B<=sb)(hk:k<t.size)(ht:t.size<=700)
  (h:ScAt w sb t { at_:=k,kind:=0,tok:={ at_:=k },sign:=sg }) :
  Calls prog 241 #[.p sb] w (Post B [] [sb] w (zf6 t k sg) (fun s' v w'=>v=.tuple #[]/\ScAt w' sb t s')):=by
 have hc:=Blk.cell h;have hf:=Blk.frozen h;have H:=zH h;clear h;go_enter func241,ntmps241;go_wp2_with fail;go_loopg [3] (t.size-k) (fun n v wr=>NumRel B w sb t k sg n v wr)
 case atStart=>exact⟨k,rfl,⟨yr _,by omega,rfl,H.o,Chg.refl _ _ _ _⟩,by omega,fun i _ _=>by omega,by rw[zsk];rfl⟩
 case round =>
  obtain⟨j,hn,⟨K,L,O,R,J⟩,h6,I,rfl⟩:=hrel;have N:=zH hn;have E:=zH O;have a2:=Blk.cell R;have a3:=Blk.frozen R;have HS:=zH R;have HC:=zH J;have W:=zH I;have a1:=zyu K L I h6;clear R J O hn hc hf I;have hx:=zog za0 t j L;rcases hx with⟨G,D,A⟩ | ⟨G,D,A⟩ | ⟨a4,A⟩
  ·have hb:=zgm t j G;have U:=zH A;have a0:=zre D;have hd:za0 (zw t j)=true:=D;clear D A;by_cases h7:j-k=6
   ·have S:((j:Int)-k==6)=true:=by simp;omega
    have Y:(0:Int)<=(j:Int)-k:=yo;have Z:6<=j-k:=yo;clear h7;go_wp2_with fail;go_quiet (fail);go_wp2_with fail;go_quiet ((go_at_call 239;first | exact zav (zdp _ _) | exact zbw (zdp _ _)));go_wp2_with (go_at_call 157;refine(zd5 _ _ _).mono ?_;rintro e w4 ⟨rfl,rfl⟩);have Q:=zH (show 6<zl za0 t k-k by rw[E.o,U.o];have:=zjz za0 t (j+1);omega);refine⟨rfl,.inr ⟨⟨4,k⟩,_,yj Q.o,rfl,zf.new yy,?_,(HC.o.drewN _).alloc _⟩⟩;exact HC.o.size
   ·have S:((j:Int)-k==6)=false:=by simp;omega
    have Y:(0:Int)<=(j:Int)-k:=yo;go_wp2_with fail;go_quiet (fail);go_wp2_with fail;go_quiet ((go_at_call 239;first | exact zav (zdp _ _) | exact zbw (zdp _ _)));go_wp2_with fail;go_quiet (fail);go_wp2;go_roundg (t.size-(j+1))
    case measure=>have:=N.o;omega
    case rel =>
     refine⟨j+1,rfl,⟨by omega,by omega,E.o.trans U.o,?_,?_⟩,by omega,?_,?_⟩
     ·exact((Blk.drewN HS.o _).qe _ _).cast yy
     ·exact(HC.o.drewN _).setX hB yy _
     ·intro i h1 h2;by_cases hi:i=j
      ·subst hi;exact hd
      ·exact W.o i h1 yo
     ·have:=zsl t k j K G;rw[this];congr 1;omega
  ·have hb:=zgm t j G;have hf1:=zH (show zf6 t k sg=.ok { at_:=j,kind:=2,tok:={ at_:=k,num:=true,n:=zeu t k j },sign:=sg } by
    unfold zf6;simp only[E.o.trans A];exact yg yo)
   clear A;go_wp2_with fail;go_quiet (fail);go_wp2_with fail;go_quiet ((go_at_call 239;first | exact zav (zdp _ _) | exact zbw (zdp _ _)));exact mBc
  ·have hf1:=zH (show zf6 t k sg=.ok { at_:=j,kind:=2,tok:={ at_:=k,num:=true,n:=zeu t k j },sign:=sg } by
    unfold zf6;simp only[E.o.trans A];exact yg yo)
   clear A;go_wp2_with fail;go_quiet (fail);exact mBc
theorem zxx (h:zgp c=true):(c=59\/c=123\/c=125\/c=40\/c=41\/c=44\/c=46\/c=43\/c=45\/c=60)\/c=61:=by
 unfold zgp at h;simp only[yQ,beq_iff_eq]at h;rcases h with(((((((((h | h) | h) | h) | h) | h) | h) | h) | h) | h) | h <;> simp[h]
theorem zes (h:zgp c=false)(n:UInt8)(hn:zgp n=true):((c.toNat:Int)==(n.toNat:Int))=false:=by
 rw[beq_eq_false_iff_ne];intro e;have:c=n:=UInt8.toNat_inj.1 yo;rw[this,hn]at h;cases h
theorem signs_no (B:Nat)(w:World)(sb:Nat)(t:ByteArray)(k:Nat)(sg c:UInt8)(hn:zgp c=false)(hk:zw t k=c)
  (h:ScAt w sb t { at_:=k,kind:=0,tok:={ at_:=k },sign:=sg }) :
  Calls prog 242 #[.p sb,.u c.toNat] w (Post B [] [sb] w (zco t k) (fun s' v w'=>v=.tuple #[]/\ScAt w' sb t s')):=by
 have G:=Blk.cell h;have H:=zH h;have A:=zH (show zco t k=.error ⟨2,k⟩ by unfold zco;rw[hk,hn];rfl);have I:((c.toNat:Int)==59)=false:=zes hn 59 rfl;have J:((c.toNat:Int)==123)=false:=zes hn 123 rfl;have K:((c.toNat:Int)==125)=false:=zes hn 125 rfl;have L:((c.toNat:Int)==40)=false:=zes hn 40 rfl;have n5:((c.toNat:Int)==41)=false:=zes hn 41 rfl;have N:((c.toNat:Int)==44)=false:=zes hn 44 rfl;have O:((c.toNat:Int)==46)=false:=zes hn 46 rfl;have Q:((c.toNat:Int)==43)=false:=zes hn 43 rfl;have R:((c.toNat:Int)==45)=false:=zes hn 45 rfl;have D:((c.toNat:Int)==60)=false:=zes hn 60 rfl;have E:((c.toNat:Int)==61)=false:=zes hn 61 rfl;clear h hn hk;go_enter func242,ntmps242;go_wp2_with (go_at_call 157;refine(zd5 _ _ _).mono ?_;rintro e S ⟨rfl,rfl⟩);exact⟨rfl,.inr ⟨⟨2,k⟩,_,A.o,rfl,zf.new yy,yr _,(Chg.refl _ _ _ _).alloc _⟩⟩
theorem z0k (B:Nat)(w:World)(sb:Nat)(t:ByteArray)(k:Nat)(sg c:UInt8)(hB:B<=sb)(hlt:k<t.size)(ht:t.size<=700)(hk:zw t k=c)
  (hy:c=59\/c=123\/c=125\/c=40\/c=41\/c=44\/c=46\/c=43\/c=45\/c=60)
  (h:ScAt w sb t { at_:=k,kind:=0,tok:={ at_:=k },sign:=sg }) :
  Calls prog 242 #[.p sb,.u c.toNat] w (Post B [] [sb] w (zco t k) (fun s' v w'=>v=.tuple #[]/\ScAt w' sb t s')):=by
 have D:=Blk.cell h;have hf:=Blk.frozen h;have H:=zH h;have A:=zH (show zco t k=.ok { at_:=k+1,kind:=3,tok:={ at_:=k },sign:=c } by
  unfold zco;rw[hk];rcases hy with rfl | rfl | rfl | rfl | rfl | rfl | rfl | rfl | rfl | rfl <;> rfl)
 clear h hk;rcases hy with rfl | rfl | rfl | rfl | rfl | rfl | rfl | rfl | rfl | rfl
 all_goals
  go_enter func242,ntmps242;go_wp2_with fail;go_quiet (fail);go_wp2;go_end0;refine .inl ⟨_,_,A.o,rfl,⟨rfl,?_⟩,?_⟩
  ·exact(Blk.drewN (((Blk.qe H.o _ _).qe _ _).qe _ _) _).cast yy
  ·exact((((Chg.refl _ _ _ _).setX hB yy _).setX hB yy _).setX hB yy _).drewN _
theorem signs_eq (B:Nat)(w:World)(sb:Nat)(t:ByteArray)(k:Nat)(sg:UInt8)(hB:B<=sb)(hlt:k<t.size)(ht:t.size<=700)(hk:zw t k=61)
  (h:ScAt w sb t { at_:=k,kind:=0,tok:={ at_:=k },sign:=sg }) :
  Calls prog 242 #[.p sb,.u 61] w (Post B [] [sb] w (zco t k) (fun s' v w'=>v=.tuple #[]/\ScAt w' sb t s')):=by
 have hc:=Blk.cell h;have hf:=Blk.frozen h;have H:=zH h;obtain⟨k1,hk1⟩:∃ k1,k1=k+1:=⟨_,rfl⟩;have K1:=zH hk1;by_cases hx:k+1<t.size/\zw t (k+1)=61
 ·have hf1:=zH (show zco t k=.ok { at_:=k+2,kind:=3,tok:={ at_:=k },sign:=101 } by
   unfold zco;rw[hk,hx.2];simp only[hx.1,true_and];rfl)
  rw[<- hk1]at hx;obtain⟨A,D⟩:=hx;have hb:=zgm t k1 A;have E:((zw t k1).toNat:Int)=61:=by rw[D];rfl
  clear h hk D hk1;go_enter func242,ntmps242;go_wp2_with fail;refine xh (fun w1=>ScAt w1 sb t { at_:=k1,kind:=3,tok:={ at_:=k },sign:=61 }/\Chg B [] [sb] w w1) ⟨(((Blk.qe H.o _ _).qe _ _).qe _ _).cast (by rw[K1.o];simp),(((Chg.refl _ _ _ _).setX hB yy _).setX hB yy _).setX hB yy _⟩ ?_;rintro w1 ⟨h1,hch⟩;clear hc hf;have hc:=Blk.cell h1;have hf:=Blk.frozen h1;have H1:=zH h1;have HC:=zH hch;clear h1 hch;go_quiet (fail);go_wp2;go_end0;refine .inl ⟨_,_,hf1.o,rfl,⟨rfl,?_⟩,?_⟩
  ·exact((Blk.qe (Blk.drewN H1.o _) _ _).qe _ _).cast (by rw[K1.o];simp;omega)
  ·exact((HC.o.drewN _).setX hB yy _).setX hB yy _
 ·have hf1:=zH (show zco t k=.ok { at_:=k+1,kind:=3,tok:={ at_:=k },sign:=61 } by
   unfold zco;rw[hk];rw[yj (by rfl),yg (fun⟨_,b⟩=>hx b)])
  rw[<- hk1]at hx;by_cases A:k1<t.size
  ·have hb:=zgm t k1 A;have E:(((zw t k1).toNat:Int)==61)=false:=by
    rw[beq_eq_false_iff_ne];intro e;exact hx ⟨A,UInt8.toNat_inj.1 (show _=61 by omega)⟩
   exact mEb
  ·have G:t.size<=k1:=yo;exact mEb
theorem z0j (B:Nat)(w:World)(sb:Nat)(t:ByteArray)(k:Nat)(sg:UInt8)(hB:B<=sb)(hlt:k<t.size)(ht:t.size<=700)
  (h:ScAt w sb t { at_:=k,kind:=0,tok:={ at_:=k },sign:=sg }) :
  Calls prog 242 #[.p sb,.u (zw t k).toNat] w (Post B [] [sb] w (zco t k) (fun s' v w'=>v=.tuple #[]/\ScAt w' sb t s')):=by
 cases hs:zgp (zw t k)
 ·exact signs_no B w sb t k sg _ hs rfl h
 ·rcases zxx hs with A | A
  ·exact z0k B w sb t k sg _ hB hlt ht rfl A h
  ·have:=signs_eq B w sb t k sg hB hlt ht A h;rw[A];exact this
theorem zxv (h:zas c=false):((c.toNat:Int)==32)=false/\((c.toNat:Int)==10)=false:=by
 unfold zas at h;simp only[yck,beq_eq_false_iff_ne]at h;refine⟨beq_eq_false_iff_ne.2 fun e=>h.1 (UInt8.toNat_inj.1 (show _=32 by omega)),beq_eq_false_iff_ne.2 fun e=>h.2 (UInt8.toNat_inj.1 (show _=10 by omega))⟩
theorem zxw (h:zas c=true):(c.toNat:Int)=32\/(((c.toNat:Int)==32)=false/\(c.toNat:Int)=10):=by
 unfold zas at h;simp only[yQ,beq_iff_eq]at h;rcases h with h | h
 ·left;rw[h];rfl
 ·right;rw[h];exact⟨rfl,rfl⟩
def NextRel (B:Nat)(w:World)(sb:Nat)(t:ByteArray)(s:Sc)(n:Nat)(wr:World):Prop :=
 ∃ j:Nat,n=t.size-j/\s.at_<=j/\j<=t.size/\zl zas t s.at_=zl zas t j/\ScAt wr sb t { s with at_:=j }/\Chg B [] [sb] w wr
theorem zlr (B:Nat)(w:World)(sb:Nat)(t:ByteArray)(s:Sc)(hB:B<=sb)(hat:s.at_<=t.size)(ht:t.size<=700)(h:ScAt w sb t s) :
  Calls prog 158 #[.p sb] w (Post B [] [sb] w (zO t s) (fun s' v w'=>v=.tuple #[]/\ScAt w' sb t s')):=by
 have H:=zH h;clear h;go_enter func158,ntmps158;go_wp2_with fail;go_loopg [] (t.size-s.at_) (fun n wr=>NextRel B w sb t s n wr)
 case atStart=>exact⟨s.at_,rfl,yr _,hat,rfl,H.o,Chg.refl _ _ _ _⟩
 case round =>
  obtain⟨j,hn,a5,a1,Z,L,S⟩:=hrel;have N:=zH hn;have E:=zH Z;have U:=Blk.cell L;have Y:=Blk.frozen L;have HS:=zH L;have HC:=zH S;clear L S Z hn;have hx:=zog zas t j a1;rcases hx with⟨J,K,G⟩ | ⟨J,K,G⟩ | ⟨a4,G⟩
  ·have hb:=zgm t j J;have ST:=zH G;have R:=zxw K;clear K G;rcases R with L | ⟨L,hd⟩
   all_goals
    go_wp2_with fail;go_quiet (fail);exact mXb
  ·have hb:=zgm t j J;have D:=zH (E.o.trans G);obtain⟨L,hd⟩:=zxv K;have I:((j:Int)==(t.size:Int))=false:=by rw[beq_eq_false_iff_ne];omega
   clear K G;go_wp2_with fail;go_quiet (fail);go_wp2_with fail;refine xh (fun O=>ScAt O sb t { at_:=j,kind:=0,tok:={ at_:=j },sign:=s.sign }/\Chg B [] [sb] w O) ⟨?_,?_⟩ ?_
   ·exact((((((Blk.drewN HS.o _).qe _ _).qe _ _).qe _ _).qe _ _).qe _ _).cast (by simp;rfl)
   ·exact(((((HC.o.drewN _).setX hB yy _).setX hB yy _).setX hB yy _).setX hB yy _).setX hB yy _
   rintro O ⟨h1,A⟩;clear U Y HS HC;have a0:=Blk.cell h1;have a3:=Blk.frozen h1;have Q:=zH h1;have HC1:=zH A;clear h1 A;go_quiet (fail);go_wp2_with fail;go_quiet (fail);cases hsm:zd8 (zw t j)
   ·cases hdg:za0 (zw t j)
    ·have hf1:=zH (show zO t s=zco t j by unfold zO;simp only[D.o];rw[yg yo,yg (by rw[hsm];simp),yg (by rw[hdg];simp)]);go_wp2_with (first | (go_at_call 238;refine(zhw _ _).mono ?_;rintro e w' ⟨rfl,rfl⟩) | (go_at_call 239;refine(zdp _ _).mono ?_;rintro e w' ⟨rfl,rfl⟩));refine(z0j B _ sb t j s.sign hB J ht ((Blk.drewN Q.o _).cast yy)).mono ?_;exact mAb
    ·have hf1:=zH (show zO t s=zf6 t j s.sign by unfold zO;simp only[D.o];rw[yg yo,yg (by rw[hsm];simp),yj hdg]);go_wp2_with (first | (go_at_call 238;refine(zhw _ _).mono ?_;rintro e w' ⟨rfl,rfl⟩) | (go_at_call 239;refine(zdp _ _).mono ?_;rintro e w' ⟨rfl,rfl⟩));refine(zyv B _ sb t j s.sign hB J ht ((Blk.drewN Q.o _).cast yy)).mono ?_;exact mAb
   ·have hf1:=zH (show zO t s=zdw t j s.sign by unfold zO;simp only[D.o];rw[yg yo,yj hsm]);go_wp2_with (first | (go_at_call 238;refine(zhw _ _).mono ?_;rintro e w' ⟨rfl,rfl⟩) | (go_at_call 239;refine(zdp _ _).mono ?_;rintro e w' ⟨rfl,rfl⟩));refine(name_any B _ sb t j s.sign hB J ht ((Blk.drewN Q.o _).cast yy)).mono ?_;exact mAb
  ·have D:=zH (E.o.trans G);have a2:t.size=j:=yo;have hf1:=zH (show zO t s=.ok { at_:=j,kind:=0,tok:={ at_:=j },sign:=s.sign } by unfold zO;simp only[D.o];rw[yj yo]);have I:((j:Int)==(t.size:Int))=true:=by rw[beq_iff_eq];omega
   have HZ:=zH I;have W:decide (j<t.size)=false:=by rw[decide_eq_false_iff_not];omega
   clear G a2 I;go_wp2_with fail;go_quiet (fail);clear W;have I:=HZ.o;go_wp2_with fail;refine xh (fun O=>ScAt O sb t { at_:=j,kind:=0,tok:={ at_:=j },sign:=s.sign }/\Chg B [] [sb] w O) ⟨?_,?_⟩ ?_
   ·exact((((((Blk.drewN HS.o _).qe _ _).qe _ _).qe _ _).qe _ _).qe _ _).cast (by simp;rfl)
   ·exact(((((HC.o.drewN _).setX hB yy _).setX hB yy _).setX hB yy _).setX hB yy _).setX hB yy _
   rintro O ⟨h1,A⟩;clear U Y HS HC;have a0:=Blk.cell h1;have Q:=zH h1;have HC1:=zH A;clear h1 A;go_quiet (fail);go_wp2_with fail;refine ym (yp rfl _ _ _) rfl ?_;exact .inl ⟨_,_,hf1.o,rfl,⟨rfl,Q.o⟩,HC1.o.drewN _⟩
theorem want_any (B:Nat)(w:World)(sb:Nat)(t:ByteArray)(s:Sc)(c:UInt8)(hB:B<=sb)(hat:s.at_<=t.size)(ht:t.size<=700)(h:ScAt w sb t s) :
  Calls prog 245 #[.p sb,.u c.toNat] w (Post B [] [sb] w (zt t s c) (fun s' v w'=>v=.tuple #[]/\ScAt w' sb t s')):=by
 have Q:=Blk.cell h;have H:=zH h;clear h;cases his:isM s c
 ·have D:=zH (show zt t s c=.error ⟨5,s.tok.at_⟩ by unfold zt;rw[his];rfl);go_enter func245,ntmps245;go_wp2_with (first | (go_at_call 291;refine(znm c _ sb t s H.o).mono ?_;rintro e w' ⟨rfl,rfl⟩) | (go_at_call 157;refine(zd5 _ _ _).mono ?_;rintro e O ⟨rfl,rfl⟩));exact⟨rfl,.inr ⟨_,_,D.o,rfl,zf.new yy,yr _,(Chg.refl _ _ _ _).alloc _⟩⟩
 ·have D:=zH (show zt t s c=zO t s by unfold zt;rw[his];rfl);go_enter func245,ntmps245;go_wp2_with (first | (go_at_call 291;refine(znm c _ sb t s H.o).mono ?_;rintro e w' ⟨rfl,rfl⟩));refine(zlr B _ sb t s hB hat ht H.o).mono ?_;rintro e O (⟨s',v,G,rfl,⟨rfl,E⟩,A⟩ | ⟨f,b,G,rfl,K,L,A⟩)
  ·have N:=zH G;have J:=zH E;have I:=zH A;clear G E A;go_wp2;go_end0;exact .inl ⟨_,_,D.o.trans N.o,rfl,⟨rfl,J.o⟩,I.o⟩
  ·exact⟨rfl,.inr ⟨_,_,D.o.trans G,rfl,K,L,A⟩⟩
def zT (n:Nm):Value:=.agg #[.string n.text,.i n.at_,.bool n.num,.i n.n]
theorem zI {a b:Int}(h:a≠b):(a==b)=false:=beq_eq_false_iff_ne.2 h
theorem zyp (B:Nat)(w:World)(sb:Nat)(t:ByteArray)(s:Sc)(hB:B<=sb)(hat:s.at_<=t.size)(ht:t.size<=700)(h:ScAt w sb t s) :
  Calls prog 244 #[.p sb] w (Post B [] [sb] w (zb5 t s) (fun p v w'=>v=zT p.1/\ScAt w' sb t p.2)):=by
 have J:=Blk.cell h;have H:=zH h;have N:=Blk.lt h;clear h;by_cases E:s.kind=1
 ·have hf1:=zH (show zb5 t s=(zO t s).map fun s'=>(s.tok,s') by unfold zb5;rw[yj E]);have I:(s.kind:Int)=1:=yo
  all_goals
   clear E;go_enter func244,ntmps244;go_wp2_with fail;refine(zlr B _ sb t s hB hat ht (Blk.alloc (Blk.alloc H.o _) _)).mono ?_;rintro e w4 (⟨s',v,hr,rfl,⟨rfl,D⟩,hch'⟩ | ⟨f,b,hr,rfl,hfb,hle,hch'⟩)
   ·have hn:=Blk.vh (g:=w.heap.size+1) (Blk.newAt yy) hch' yy (by simp;omega);have A:=Blk.vh (g:=w.heap.size) (Blk.alloc (Blk.newAt rfl) _) hch' yy (by simp;omega);have K:=Blk.cell hn;have G:=Blk.cell A;have L:=Blk.frozen A;have HR:=zH hr;have HS':=zH D;have HC':=zH (show Chg B [] [sb] w w4 from(((Chg.refl _ _ _ _).alloc _).alloc _).trans hch');clear hr D hch' J hn A;go_wp2_with fail;refine bodyPost_end (v:=zT s.tok) (by simp[results,results244,go_sem,zT,G]) rfl ?_;exact mWb
   ·exact mKc
 ·have hf1:=zH (show zb5 t s=.error ⟨5,s.tok.at_⟩ by unfold zb5;rw[yg E]);have I:((s.kind:Int)==1)=false:=zI yo;clear E;go_enter func244,ntmps244;exact mHc
theorem kind12 (h:k=1\/k=2):(k:Int)=1\/((k:Int)==1)=false/\(k:Int)=2:=by
 rcases h with h | h <;> subst h <;> simp
theorem kindNot (h:¬ (k=1\/k=2)):((k:Int)==1)=false/\((k:Int)==2)=false/\((k:Int) != 1)=true/\((k:Int) != 2)=true:=⟨zI yo,zI yo,bne_iff_ne.2 yo,bne_iff_ne.2 yo⟩
theorem atom_any (B:Nat)(w:World)(sb:Nat)(t:ByteArray)(s:Sc)(hB:B<=sb)(hat:s.at_<=t.size)(ht:t.size<=700)(h:ScAt w sb t s) :
  Calls prog 292 #[.p sb] w (Post B [] [sb] w (zay t s) (fun p v w'=>v=zT p.1/\ScAt w' sb t p.2)):=by
 have K:=Blk.cell h;have H:=zH h;have R:=Blk.lt h;clear h;by_cases D:s.kind=1\/s.kind=2
 ·have hf1:=zH (show zay t s=(zO t s).map fun s'=>(s.tok,s') by unfold zay;rw[yj D]);rcases kind12 D with E | ⟨E,J⟩
  all_goals
   clear D;go_enter func292,ntmps292;go_wp2_with fail;refine(zlr B _ sb t s hB hat ht (Blk.alloc (Blk.alloc H.o _) _)).mono ?_;rintro e w4 (⟨s',v,hr,rfl,⟨rfl,G⟩,hch'⟩ | ⟨f,b,hr,rfl,hfb,hle,hch'⟩)
   ·have hn:=Blk.vh (g:=w.heap.size+1) (Blk.newAt yy) hch' yy (by simp;omega);have A:=Blk.vh (g:=w.heap.size) (Blk.alloc (Blk.newAt rfl) _) hch' yy (by simp;omega);have L:=Blk.cell hn;have I:=Blk.cell A;have N:=Blk.frozen A;have HR:=zH hr;have HS':=zH G;have HC':=zH (show Chg B [] [sb] w w4 from(((Chg.refl _ _ _ _).alloc _).alloc _).trans hch');clear hr G hch' K hn A;go_wp2_with fail;refine bodyPost_end (v:=zT s.tok) (by simp[results,results292,go_sem,zT,I]) rfl ?_;exact mWb
   ·exact mKc
 ·have hf1:=zH (show zay t s=.error ⟨5,s.tok.at_⟩ by unfold zay;rw[yg D]);obtain⟨E,J,O,Q⟩:=kindNot D;clear D;go_enter func292,ntmps292;exact mHc
def zB {α β : Type}(r:Except Flt α)(f:α -> Except Flt β):Except Flt β :=
 match r with
 | .ok a=>f a
 | .error e=>.error e
theorem zF {α β: Type}(a:α)(f:α -> Except Flt β):zB (.ok a) f=f a:=rfl
theorem zbh {α β: Type}(e:Flt)(f:α -> Except Flt β):zB (.error e) f=.error e:=rfl
theorem zhd {α β γ: Type}(r:Except Flt α)(f:α -> Except Flt β)(g:β -> Except Flt γ):zB (zB r f) g=zB r (fun a=>zB (f a) g):=by
 cases r <;> rfl
structure Stm where
 op:Nat:=0
 at_:Nat:=0
 mark:Nat:=0
 x:Nm:={}
 y:Nm:={}
 z:Nm:={}
 f:Nm:={}
 args:List Nm:=[]
 bin:Nat:=0
 field:Nat:=0
 has:Bool:=false
 body:List Nat:=[]
 els:List Nat:=[]
structure Dcl where
 kind:UInt8
 name:Nm
 params:List Nm:=[]
 body:List Nat:=[]
def zdv (atoms:Bool)(t:ByteArray)(s:Sc):Except Flt (Nm×Sc):=if atoms then zay t s else zb5 t s
def zat (atoms:Bool)(t:ByteArray):Nat->Sc->Except Flt (List Nm×Sc)
 | 0,_=>.error ⟨99,0⟩
 | n+1,s=>zB (zdv atoms t s) fun p =>
  if isM p.2 41 then .ok ([p.1],p.2)else
  zB (zt t p.2 44) fun s2=>zB (zat atoms t n s2) fun q=>.ok (p.1::q.1,q.2)
def zcd (atoms:Bool)(t:ByteArray)(s:Sc):Except Flt (List Nm×Sc) :=
 zB (if isM s 41 then .ok ([],s)else zat atoms t (t.size+1) s) fun p=>zB (zt t p.2 41) fun s2=>.ok (p.1,s2)
def bytes (l:List UInt8):ByteArray:=⟨l.toArray⟩
def wL:ByteArray:=bytes [108]
def wR:ByteArray:=bytes [114]
def zgd:ByteArray:=bytes [108,111,99,107]
def zfn:ByteArray:=bytes [117,110,108,111,99,107]
def zfm:ByteArray:=bytes [106,111,105,110]
def zge:ByteArray:=bytes [114,101,116,117,114,110]
def wIf:ByteArray:=bytes [105,102]
def zfo:ByteArray:=bytes [119,104,105,108,101]
def wGo:ByteArray:=bytes [103,111]
def wElse:ByteArray:=bytes [101,108,115,101]
def wNew:ByteArray:=bytes [110,101,119]
def wVar:ByteArray:=bytes [118,97,114]
def ze1:ByteArray:=bytes [109,117,116,101,120]
def zfl:ByteArray:=bytes [102,117,110,99]
def zer (t:ByteArray)(s:Sc):Except Flt (Nat×Sc) :=
 zB (zb5 t s) fun p=>if eqB p.1.text wL then .ok (0,p.2)else if eqB p.1.text wR then .ok (1,p.2)else .error ⟨5,p.1.at_⟩
def zfv (t:ByteArray)(s:Sc)(x:Stm):Except Flt (Stm×Sc) :=
 zB (zb5 t s) fun p=>zB (zt t p.2 40) fun s2=>zB (zcd true t s2) fun q=>.ok ({ x with f:=p.1,args:=q.1 },q.2)
def xw (t:ByteArray)(s:Sc)(x:Stm):Except Flt (Stm×Sc) :=
 let b:=if s.kind=3 then(if s.sign=43 then 1 else if s.sign=45 then 2 else if s.sign=60 then 3 else if s.sign=101 then 4 else 0)else 0
 if b=0 then .ok (x,s)else zB (zO t s) fun s1=>zB (zay t s1) fun p=>.ok ({ x with bin:=b,z:=p.1 },p.2)
def zaj (t:ByteArray)(s:Sc)(x:Stm):Except Flt (Stm×Sc) :=
 let x:={ x with mark:=s.tok.at_ }
 if zk s wNew then zB (zO t s) fun s1=>.ok ({ x with op:=6 },s1)else
 if zk s wGo then zB (zO t s) fun s1=>zfv t s1 { x with op:=7 } else
 zB (zay t s) fun p =>
 if isM p.2 40/\s.kind≠2 then zB (zO t p.2) fun s1=>zB (zcd true t s1) fun q=>.ok ({ x with op:=11,f:=p.1,args:=q.1 },q.2)else
 if isM p.2 46/\s.kind≠2 then zB (zO t p.2) fun s1=>zB (zer t s1) fun q=>.ok ({ x with op:=4,y:=p.1,field:=q.1 },q.2)else
 xw t p.2 { x with op:=1,y:=p.1 }
def zcy (t:ByteArray)(s:Sc)(x:Stm):Except Flt (Stm×Sc) :=
 zB (zb5 t s) fun p =>
 zB (if isM p.2 40 then zB (zO t p.2) fun s1=>zB (zcd true t s1) fun q=>.ok ({ x with op:=11,f:=p.1,args:=q.1 },q.2)
  else if isM p.2 46 then zB (zO t p.2) fun s1=>zB (zer t s1) fun q=>zB (zt t q.2 61) fun s3=>zB (zay t s3) fun r=>.ok ({ x with op:=5,x:=p.1,field:=q.1,y:=r.1 },r.2)
  else zB (zt t p.2 61) fun s1=>zaj t s1 { x with x:=p.1 }) fun r =>
 zB (zt t r.2 59) fun s2=>.ok (r.1,s2)
def zcj (stmt:Sc->Nat->Except Flt (List Stm×Sc)):Nat->Sc->Nat->Except Flt ((List Nat×List Stm)×Sc)
 | 0,_,_=>.error ⟨99,0⟩
 | n+1,s,k=>if isM s 125 then .ok (([],[]),s)else
  zB (stmt s k) fun p=>zB (zcj stmt n p.2 (k+p.1.length)) fun q=>.ok ((k::q.1.1,p.1++q.1.2),q.2)
def zck (t:ByteArray)(stmt:Sc->Nat->Except Flt (List Stm×Sc))(depth:Nat)(s:Sc)(k:Nat):Except Flt ((List Nat×List Stm)×Sc) :=
 if isM s 123/\6<depth then .error ⟨6,s.tok.at_⟩else
 zB (zt t s 123) fun s1=>zB (zcj stmt (t.size+1) s1 k) fun p=>zB (zt t p.2 125) fun s2=>.ok (p.1,s2)
def zgl (t:ByteArray)(block:Sc->Nat->Except Flt ((List Nat×List Stm)×Sc))(isWhile:Bool)(s:Sc)(k:Nat)(x:Stm):Except Flt (List Stm×Sc) :=
 zB (zay t s) fun p=>zB (block p.2 (k+1)) fun b =>
 if isWhile then .ok ({ x with op:=14,y:=p.1,body:=b.1.1 }::b.1.2,b.2)else
 if zk b.2 wElse then zB (zO t b.2) fun s1=>zB (block s1 (k+1+b.1.2.length)) fun c =>
  .ok ({ x with op:=13,y:=p.1,body:=b.1.1,has:=true,els:=c.1.1 }::(b.1.2++c.1.2),c.2)
 else .ok ({ x with op:=13,y:=p.1,body:=b.1.1 }::b.1.2,b.2)
def xj (t:ByteArray)(block:Sc->Nat->Except Flt ((List Nat×List Stm)×Sc))(s:Sc)(k:Nat)(x:Stm):Except Flt (List Stm×Sc) :=
 let w:=s.tok.text
 if eqB w zgd||eqB w zfn||eqB w zfm then
  zB (zO t s) fun s1=>zB (zb5 t s1) fun p=>zB (zt t p.2 59) fun s2 =>
  .ok ([{ x with op:=if eqB w zfm then 8 else if eqB w zfn then 10 else 9,y:=p.1 }],s2)
 else if eqB w zge then
  zB (zO t s) fun s1=>if isM s1 59 then zB (zt t s1 59) fun s2=>.ok ([{ x with op:=12 }],s2)
   else zB (zay t s1) fun p=>zB (zt t p.2 59) fun s2=>.ok ([{ x with op:=12,has:=true,y:=p.1 }],s2)
 else if eqB w wIf||eqB w zfo then zB (zO t s) fun s1=>zgl t block (eqB w zfo) s1 k x
 else if eqB w wGo then zB (zO t s) fun s1=>zB (zfv t s1 { x with op:=7,mark:=s.tok.at_ }) fun p=>zB (zt t p.2 59) fun s2=>.ok ([p.1],s2)
 else .error ⟨5,s.tok.at_⟩
def xg (t:ByteArray):Nat->Nat->Sc->Nat->Except Flt (List Stm×Sc)
 | 0,_,_,_=>.error ⟨99,0⟩
 | lvl+1,depth,s,k =>
  if s.kind=4 then xj t (zck t (xg t lvl (depth+1)) (depth+1)) s k { at_:=s.tok.at_ }
  else zB (zcy t s { at_:=s.tok.at_ }) fun p=>.ok ([p.1],p.2)
def zcv (t:ByteArray)(s:Sc)(k:Nat):Except Flt ((Dcl×List Stm)×Sc) :=
 if zk s wVar||zk s ze1 then
  zB (zO t s) fun s1=>zB (zb5 t s1) fun p=>zB (zt t p.2 59) fun s2=>.ok (({ kind:=if zk s ze1 then 109 else 118,name:=p.1 },[]),s2)
 else if zk s zfl then
  zB (zO t s) fun s1=>zB (zb5 t s1) fun p=>zB (zt t p.2 40) fun s2=>zB (zcd false t s2) fun q =>
  zB (zck t (xg t 6 1) 1 q.2 k) fun b=>.ok (({ kind:=102,name:=p.1,params:=q.1,body:=b.1.1 },b.1.2),b.2)
 else .error ⟨5,s.tok.at_⟩
def zb0 (t:ByteArray):Nat->Sc->Nat->Except Flt (List Dcl×List Stm)
 | 0,_,_=>.error ⟨99,0⟩
 | n+1,s,k=>if s.kind=0 then .ok ([],[])else
  zB (zcv t s k) fun p=>zB (zb0 t n p.2 (k+p.1.2.length)) fun q=>.ok (p.1.1::q.1,p.1.2++q.2)
def zc1 (t:ByteArray):Except Flt (List Dcl×List Stm) :=
 if 700<t.size then .error ⟨1,0⟩else
 zB (zO t { at_:=0,kind:=0,tok:={},sign:=0 }) fun s=>zb0 t (t.size+1) s 0
section
structure PC where
 B:Nat
 pb:Nat
 sb:Nat
 tb:Nat
 t:ByteArray
 rb:Nat
structure Env (C:PC)(w:World)(s:Sc):Prop where
 p:Blk w C.pb 321 #[.p C.sb,.p C.tb]
 sc:ScAt w C.sb C.t s
 at_:s.at_<=C.t.size
 tsz:C.t.size<=700
 bs:C.B<=C.sb
 bt:C.B<=C.tb
section
variable {C:PC} {w w1:World} {s s1:Sc} {ts:List TypeId} {xs:List Nat}
theorem Env.pne (E:Env C w s):C.pb≠C.sb:=E.p.qs E.sc yd
theorem Env.of (E:Env C w s)(hc:Chg C.B ts xs w w1)(hp:321 ∉ ts)(hpx:C.pb ∉ xs)(hs:ScAt w1 C.sb C.t s1)(ha:s1.at_<=C.t.size):Env C w1 s1 :=
 ⟨E.p.vh hc hp hpx,hs,ha,E.tsz,E.bs,E.bt⟩
theorem Env.vo (E:Env C w s)(hc:Chg C.B ts xs w w1)(hp:321 ∉ ts)(hs:319 ∉ ts)(hpx:C.pb ∉ xs)(hsx:C.sb ∉ xs):Env C w1 s :=
 ⟨E.p.vh hc hp hpx,Blk.vh E.sc hc hs hsx,E.at_,E.tsz,E.bs,E.bt⟩
theorem Env.alloc (E:Env C w s)(o:Obj):Env C (w.alloc o) s:=⟨E.p.alloc o,Blk.alloc E.sc o,E.at_,E.tsz,E.bs,E.bt⟩
theorem Env.qi (E:Env C w s){p:Addr}(hp:C.pb≠p.block)(hs:C.sb≠p.block)(u:Value):Env C (w.setCell p u) s:=⟨E.p.qi hp u,Blk.qi E.sc hs u,E.at_,E.tsz,E.bs,E.bt⟩
theorem Env.below {N:Nat}(E:Env C w s)(h:Below N w w1)(hp:C.pb<N)(hs:C.sb<N):Env C w1 s:=⟨E.p.below h hp,Blk.below E.sc h hs,E.at_,E.tsz,E.bs,E.bt⟩
theorem Env.append {e:TypeId}{size:Nat}{ys:List Value}(E:Env C w s)(hown:w.ownsRow B e size v n ys)(h:w.grownBy w1 v.ownBlock)(hp:e≠321)(hs:e≠319):Env C w1 s :=
 ⟨E.p.append hown h hp,Blk.append E.sc hown h hs,E.at_,E.tsz,E.bs,E.bt⟩
theorem Env.drew (E:Env C w s):Env C w.drew s:=⟨E.p,E.sc,E.at_,E.tsz,E.bs,E.bt⟩
theorem Env.drewN (E:Env C w s)(n:Nat):Env C (w.drewN n) s:=⟨E.p,E.sc,E.at_,E.tsz,E.bs,E.bt⟩
theorem Env.farT (E:Env C w s){t:TypeId}(h:Blk w g t cs)(hp:t≠321)(hs:t≠319)(i:Nat)(u:Value):Env C (w.setCell (.a g i) u) s :=
 E.qi (E.p.qs h (fun e=>hp e.symm)) (Blk.qs E.sc h (fun e=>hs e.symm)) u
end
theorem zg2 {s:Sc}(h:zt t s c=.ok s'):isM s c=true/\zO t s=.ok s':=by
 unfold zt at h;split at h
 ·rename_i h1;exact⟨h1,h⟩
 ·cases h
theorem map_ok {α β: Type}{r:Except Flt α}{f:α -> β}{b:β}(h:r.map f=.ok b):∃ a,r=.ok a/\f a=b:=by
 cases r with
 | error e=>cases h
 | ok a=>exact⟨a,rfl,by injection h⟩
theorem zfc {s:Sc}(h:zb5 t s=.ok p):s.kind=1/\zO t s=.ok p.2/\p.1=s.tok:=by
 unfold zb5 at h;split at h
 ·rename_i h1;obtain⟨a,h2,rfl⟩:=map_ok h;exact⟨h1,h2,rfl⟩
 ·cases h
theorem zha {s:Sc}(h:zay t s=.ok p):(s.kind=1\/s.kind=2)/\zO t s=.ok p.2/\p.1=s.tok:=by
 unfold zay at h;split at h
 ·rename_i h1;obtain⟨a,h2,rfl⟩:=map_ok h;exact⟨h1,h2,rfl⟩
 ·cases h
section
variable {C:PC} {w:World} {s:Sc}
theorem zau (E:Env C w s):Calls prog 158 #[.p C.sb] w (Post C.B [] [C.sb] w (zO C.t s) (fun s' v w'=>v=.tuple #[]/\Env C w' s')) :=
 (zlr C.B w C.sb C.t s E.bs E.at_ E.tsz E.sc).mono fun e w' h=>by
  rcases h with⟨s',v,D,G,⟨hv,H⟩,A⟩ | h
  ·exact .inl ⟨s',v,D,G,⟨hv,E.of A yy (by simpa using E.pne) H (zfd D E.at_).1⟩,A⟩
  ·exact .inr h
theorem zbc (E:Env C w s)(c:UInt8):Calls prog 245 #[.p C.sb,.u c.toNat] w (Post C.B [] [C.sb] w (zt C.t s c) (fun s' v w'=>v=.tuple #[]/\Env C w' s')) :=
 (want_any C.B w C.sb C.t s c E.bs E.at_ E.tsz E.sc).mono fun e w' h=>by
  rcases h with⟨s',v,D,G,⟨hv,H⟩,A⟩ | h
  ·exact .inl ⟨s',v,D,G,⟨hv,E.of A yy (by simpa using E.pne) H (zfd (zg2 D).2 E.at_).1⟩,A⟩
  ·exact .inr h
theorem zfb (E:Env C w s):Calls prog 244 #[.p C.sb] w (Post C.B [] [C.sb] w (zb5 C.t s) (fun p v w'=>v=zT p.1/\Env C w' p.2)) :=
 (zyp C.B w C.sb C.t s E.bs E.at_ E.tsz E.sc).mono fun e w' h=>by
  rcases h with⟨s',v,D,G,⟨hv,H⟩,A⟩ | h
  ·exact .inl ⟨s',v,D,G,⟨hv,E.of A yy (by simpa using E.pne) H (zfd (zfc D).2.1 E.at_).1⟩,A⟩
  ·exact .inr h
theorem zfw (E:Env C w s):Calls prog 292 #[.p C.sb] w (Post C.B [] [C.sb] w (zay C.t s) (fun p v w'=>v=zT p.1/\Env C w' p.2)) :=
 (atom_any C.B w C.sb C.t s E.bs E.at_ E.tsz E.sc).mono fun e w' h=>by
  rcases h with⟨s',v,D,G,⟨hv,H⟩,A⟩ | h
  ·exact .inl ⟨s',v,D,G,⟨hv,E.of A yy (by simpa using E.pne) H (zfd (zha D).2.1 E.at_).1⟩,A⟩
  ·exact .inr h
theorem zy (E:Env C w s)(c:UInt8):Calls prog 291 #[.p C.sb,.u c.toNat] w fun e w'=>e=.r (.bool (isM s c))/\w=w':=znm c w C.sb C.t s E.sc
theorem zbl (E:Env C w s)(x:ByteArray):Calls prog 243 #[.p C.sb,.string x] w fun e w'=>e=.r (.bool (zk s x))/\w=w':=zxy x w C.sb C.t s E.sc
end
def zcn (n:Nm):List Value:=[.string n.text,.i n.at_,.bool n.num,.i n.n]
def xp (w:World)(B:Nat)(v:Value)(l:List Nm):Prop:=w.ownsRow B 220 4 v l.length (l.flatMap zcn)
theorem zxt:(prog.info? 220).map (fun i=>(i.zero,i.size,i.bytes))=some (some (.agg #[.string ByteArray.empty,.i 0,.bool false,.i 0]),4,40):=yk
end
theorem zD {α β: Type}{r:Except Flt α}{f:α -> Except Flt β}{b:β}(h:zB r f=.ok b):∃ a,r=.ok a/\f a=.ok b:=by
 cases r with
 | ok a=>exact⟨a,rfl,h⟩
 | error e=>cases h
theorem za8 (h:zO t s=.ok s')(hs:s.at_<=t.size):s'.at_<=t.size/\s.at_<=s'.at_:=⟨(zfd h hs).1,(zfd h hs).2.1⟩
theorem zcr (h:zt t s c=.ok s')(hs:s.at_<=t.size):s'.at_<=t.size/\s.at_<=s'.at_:=za8 (zg2 h).2 hs
theorem zgu (h:zb5 t s=.ok p)(hs:s.at_<=t.size):p.2.at_<=t.size/\s.at_<=p.2.at_:=za8 (zfc h).2.1 hs
theorem zib (h:zay t s=.ok p)(hs:s.at_<=t.size):p.2.at_<=t.size/\s.at_<=p.2.at_:=za8 (zha h).2.1 hs
theorem zjv (h:isM s c=true):s.kind≠0:=by
 unfold isM at h;simp only[yH,beq_iff_eq]at h;omega
theorem zec (h:zO t s=.ok s')(hs:s.at_<=t.size)(hk:s'.kind≠0):s.at_<s'.at_:=(zfd h hs).2.2 hk
theorem itemM_le (h:zdv a t s=.ok p)(hs:s.at_<=t.size):p.2.at_<=t.size/\s.at_<=p.2.at_:=by
 unfold zdv at h;split at h
 ·exact zib h hs
 ·exact zgu h hs
theorem zr0 {a:Bool}{t:ByteArray}:∀ (n:Nat) {s:Sc} {p:List Nm×Sc},zat a t n s=.ok p->s.at_<=t.size->p.2.at_<=t.size/\s.at_<=p.2.at_
 | 0,s,p,h,hs=>by simp[zat]at h
 | n+1,s,p,h,hs=>by
  rw[zat]at h;obtain⟨q,h1,h2⟩:=zD h;have A:=itemM_le h1 hs;split at h2
  ·injection h2 with h2;subst h2;exact A
  ·obtain⟨s2,h3,h4⟩:=zD h2;have D:=zcr h3 A.1;obtain⟨r,h5,h6⟩:=zD h4;have E:=zr0 n h5 D.1;injection h6 with h6;subst h6;exact⟨E.1,by show _<=r.2.at_;omega⟩
theorem zj6 {p:List Nm×Sc}(h:zcd a t s=.ok p)(hs:s.at_<=t.size):p.2.at_<=t.size/\s.at_<=p.2.at_:=by
 unfold zcd at h;obtain⟨q,h1,h2⟩:=zD h;obtain⟨s2,h3,h4⟩:=zD h2;injection h4 with h4;subst h4;have A:q.2.at_<=t.size/\s.at_<=q.2.at_:=by
  split at h1
  ·injection h1 with h1;subst h1;exact⟨hs,yr _⟩
  ·exact zr0 _ h1 hs
 have D:=zcr h3 A.1;exact⟨D.1,by show _<=s2.at_;omega⟩
theorem zpj {x:Stm}{p:Stm×Sc}(h:zfv t s x=.ok p)(hs:s.at_<=t.size):s.kind≠0/\p.2.at_<=t.size/\s.at_<=p.2.at_:=by
 unfold zfv at h;obtain⟨q,h1,h2⟩:=zD h;obtain⟨s2,h3,h4⟩:=zD h2;obtain⟨r,h5,h6⟩:=zD h4;injection h6 with h6;subst h6;have A:=zgu h1 hs;have D:=zcr h3 A.1;have E:=zj6 h5 D.1;have:=(zfc h1).1;exact⟨by omega,E.1,by show _<=r.2.at_;omega⟩
theorem zqr {p:Nat×Sc}(h:zer t s=.ok p)(hs:s.at_<=t.size):p.2.at_<=t.size/\s.at_<=p.2.at_:=by
 unfold zer at h;obtain⟨q,h1,h2⟩:=zD h;have A:=zgu h1 hs;split at h2
 ·injection h2 with h2;subst h2;exact A
 ·split at h2
  ·injection h2 with h2;subst h2;exact A
  ·cases h2
theorem zvn {x:Stm}{p:Stm×Sc}(h:xw t s x=.ok p)(hs:s.at_<=t.size):p.2.at_<=t.size/\s.at_<=p.2.at_:=by
 unfold xw at h;simp only at h;split at h
 all_goals try split at h
 all_goals try split at h
 all_goals try split at h
 all_goals try split at h
 all_goals try split at h
 all_goals first
  | (injection h with h;subst h;exact⟨hs,yr _⟩)
  | (obtain⟨s1,h1,h2⟩:=zD h;obtain⟨q,h3,h4⟩:=zD h2;injection h4 with h4;subst h4;have A:=za8 h1 hs;have D:=zib h3 A.1;exact⟨D.1,by show _<=q.2.at_;omega⟩)
  | (exfalso;simp_all;done)
theorem zu8 {x:Stm}{p:Stm×Sc}(h:zaj t s x=.ok p)(hs:s.at_<=t.size):p.2.at_<=t.size/\s.at_<=p.2.at_:=by
 unfold zaj at h;simp only at h;split at h
 ·obtain⟨s1,h1,h2⟩:=zD h;injection h2 with h2;subst h2;exact za8 h1 hs
 ·split at h
  ·obtain⟨s1,h1,h2⟩:=zD h;have D:=za8 h1 hs;have A:=zpj h2 D.1;exact⟨A.2.1,by omega⟩
  ·obtain⟨q,h1,h2⟩:=zD h;have D:=zib h1 hs;split at h2
   ·obtain⟨s1,h3,h4⟩:=zD h2;obtain⟨r,h5,h6⟩:=zD h4;injection h6 with h6;subst h6;have A:=za8 h3 D.1;have E:=zj6 h5 A.1;exact⟨E.1,by show _<=r.2.at_;omega⟩
   ·split at h2
    ·obtain⟨s1,h3,h4⟩:=zD h2;obtain⟨r,h5,h6⟩:=zD h4;injection h6 with h6;subst h6;have A:=za8 h3 D.1;have E:=zqr h5 A.1;exact⟨E.1,by show _<=r.2.at_;omega⟩
    ·have A:=zvn h2 D.1;exact⟨A.1,by omega⟩
theorem zyq {x:Stm}{p:Stm×Sc}(h:zcy t s x=.ok p)(hs:s.at_<=t.size):p.2.at_<=t.size/\s.at_<p.2.at_:=by
 unfold zcy at h;obtain⟨q,h1,h2⟩:=zD h;obtain⟨r,h3,h4⟩:=zD h2;obtain⟨s2,h5,h6⟩:=zD h4;injection h6 with h6;subst h6;have H:=zgu h1 hs;have hn:=(zfc h1).2.1;have key:r.2.at_<=t.size/\s.at_<r.2.at_:=by
  split at h3
  ·rename_i hi;have G:=zec hn hs (zjv hi);obtain⟨s1,h7,h8⟩:=zD h3;obtain⟨u,L,h10⟩:=zD h8;injection h10 with h10;subst h10;have A:=za8 h7 H.1;have E:=zj6 L A.1;exact⟨E.1,by show _<u.2.at_;omega⟩
  ·split at h3
   ·rename_i hi;have G:=zec hn hs (zjv hi);obtain⟨s1,h7,h8⟩:=zD h3;obtain⟨u,L,h10⟩:=zD h8;obtain⟨s3,I,J⟩:=zD h10;obtain⟨v,K,D⟩:=zD J;injection D with D;subst D;have A:=za8 h7 H.1;have E:=zqr L A.1;have N:=zcr I E.1;have O:=zib K N.1;exact⟨O.1,by show _<v.2.at_;omega⟩
   ·obtain⟨s1,h7,h8⟩:=zD h3;have G:=zec hn hs (zjv (zg2 h7).1);have A:=zcr h7 H.1;have E:=zu8 h8 A.1;exact⟨E.1,by omega⟩
 have A:=zcr h5 key.1;exact⟨A.1,by show _<s2.at_;omega⟩
def zd2 (t:ByteArray)(s s':Sc)(n:Nat):Prop:=s'.at_<=t.size/\s.at_+n<=s'.at_
theorem zpx {t:ByteArray}{stmt:Sc->Nat->Except Flt (List Stm×Sc)}(hst:∀ s k p,stmt s k=.ok p->s.at_<=t.size->zd2 t s p.2 p.1.length/\0<p.1.length) :
  ∀ (n:Nat) {s:Sc} {k:Nat} {p:(List Nat×List Stm)×Sc},zcj stmt n s k=.ok p->s.at_<=t.size->zd2 t s p.2 p.1.2.length
 | 0,s,k,p,h,hs=>by simp[zcj]at h
 | n+1,s,k,p,h,hs=>by
  rw[zcj]at h;split at h
  ·injection h with h;subst h;exact⟨hs,by simp⟩
  ·obtain⟨q,h1,h2⟩:=zD h;obtain⟨r,h3,h4⟩:=zD h2;injection h4 with h4;subst h4;have A:=(hst _ _ _ h1 hs).1;have D:=zpx hst n h3 A.1;refine⟨D.1,?_⟩;have:=A.2;have:=D.2;show _+(q.1++r.1.2).length<=r.2.at_;rw[yx];omega
theorem zmy {stmt:Sc->Nat->Except Flt (List Stm×Sc)}(hst:∀ s k p,stmt s k=.ok p->s.at_<=t.size->zd2 t s p.2 p.1.length/\0<p.1.length){d:Nat}{p:(List Nat×List Stm)×Sc}
  (h:zck t stmt d s k=.ok p) (hs:s.at_<=t.size):zd2 t s p.2 p.1.2.length:=by
 unfold zck at h;split at h
 ·cases h
 ·obtain⟨s1,h1,h2⟩:=zD h;obtain⟨q,h3,h4⟩:=zD h2;obtain⟨s2,h5,h6⟩:=zD h4;injection h6 with h6;subst h6;have D:=zcr h1 hs;have A:=zpx hst _ h3 D.1;have E:=zcr h5 A.1;refine⟨E.1,?_⟩;have:=A.2;show _+q.1.2.length<=s2.at_;omega
theorem zv1 {block:Sc->Nat->Except Flt ((List Nat×List Stm)×Sc)}(hbl:∀ s k p,block s k=.ok p->s.at_<=t.size->zd2 t s p.2 p.1.2.length){wh:Bool}{s0:Sc}{x:Stm}{p:List Stm×Sc}
  (h:zgl t block wh s k x=.ok p) (hs:s.at_<=t.size) (h0:s.kind≠0->s0.at_<s.at_):zd2 t s0 p.2 p.1.length/\0<p.1.length:=by
 unfold zgl at h;obtain⟨q,h1,h2⟩:=zD h;obtain⟨b,h3,h4⟩:=zD h2;have E:=zib h1 hs;have A:=hbl _ _ _ h3 E.1;have H:=h0 (yq ((zha h1).1));have I:=A.2;split at h4
 ·injection h4 with h4;subst h4;exact⟨⟨A.1,by show _+(_::b.1.2).length<=b.2.at_;rw[yai];omega⟩,by simp⟩
 ·split at h4
  ·obtain⟨s1,h5,h6⟩:=zD h4;obtain⟨c,h7,h8⟩:=zD h6;injection h8 with h8;subst h8;have G:=za8 h5 A.1;have D:=hbl _ _ _ h7 G.1;have J:=D.2;exact⟨⟨D.1,by show _+(_::(b.1.2++c.1.2)).length<=c.2.at_;rw[yai,yx];omega⟩,by simp⟩
  ·injection h4 with h4;subst h4;exact⟨⟨A.1,by show _+(_::b.1.2).length<=b.2.at_;rw[yai];omega⟩,by simp⟩
theorem z06 {block:Sc->Nat->Except Flt ((List Nat×List Stm)×Sc)}(hbl:∀ s k p,block s k=.ok p->s.at_<=t.size->zd2 t s p.2 p.1.2.length){x:Stm}{p:List Stm×Sc}
  (h:xj t block s k x=.ok p) (hs:s.at_<=t.size):zd2 t s p.2 p.1.length/\0<p.1.length:=by
 unfold xj at h;simp only at h;split at h
 ·obtain⟨s1,h1,h2⟩:=zD h;obtain⟨q,h3,h4⟩:=zD h2;obtain⟨s2,h5,h6⟩:=zD h4;injection h6 with h6;subst h6;have A:=za8 h1 hs;have D:=zgu h3 A.1;have G:=zcr h5 D.1;have E:=zec h1 hs (yq ((zfc h3).1));exact⟨⟨G.1,by show _+1<=s2.at_;omega⟩,by simp⟩
 ·split at h
  ·obtain⟨s1,h1,h2⟩:=zD h;have A:=za8 h1 hs;split at h2
   ·rename_i hi;obtain⟨s2,h3,h4⟩:=zD h2;injection h4 with h4;subst h4;have D:=zcr h3 A.1;have E:=zec h1 hs (zjv hi);exact⟨⟨D.1,by show _+1<=s2.at_;omega⟩,by simp⟩
   ·obtain⟨q,h3,h4⟩:=zD h2;obtain⟨s2,h5,h6⟩:=zD h4;injection h6 with h6;subst h6;have D:=zib h3 A.1;have G:=zcr h5 D.1;have E:=zec h1 hs (yq ((zha h3).1));exact⟨⟨G.1,by show _+1<=s2.at_;omega⟩,by simp⟩
  ·split at h
   ·obtain⟨s1,h1,h2⟩:=zD h;have A:=za8 h1 hs;exact zv1 hbl h2 A.1 (zec h1 hs)
   ·split at h
    ·obtain⟨s1,h1,h2⟩:=zD h;obtain⟨q,h3,h4⟩:=zD h2;obtain⟨s2,h5,h6⟩:=zD h4;injection h6 with h6;subst h6;have A:=za8 h1 hs;have D:=zpj h3 A.1;have G:=zcr h5 D.2.1;have E:=zec h1 hs D.1;exact⟨⟨G.1,by show _+1<=s2.at_;omega⟩,by simp⟩
    ·cases h
theorem zl5 {t:ByteArray}:∀ (lvl d:Nat) (s:Sc) (k:Nat) (p:List Stm×Sc),xg t lvl d s k=.ok p->s.at_<=t.size->zd2 t s p.2 p.1.length/\0<p.1.length
 | 0,d,s,k,p,h,A=>by simp[xg]at h
 | lvl+1,d,s,k,p,h,A=>by
  rw[xg]at h;split at h
  ·exact z06 (fun s k p h A=>zmy (fun s k p h A=>zl5 lvl (d+1) s k p h A) h A) h A
  ·obtain⟨q,h1,h2⟩:=zD h;injection h2 with h2;subst h2;have b:=zyq h1 A;exact⟨⟨b.1,by show _+1<=q.2.at_;omega⟩,by simp⟩
def okNm (n:Nm):Prop:=n.text.size<=700
structure okStm (s:Stm):Prop where
 x:okNm s.x
 y:okNm s.y
 z:okNm s.z
 f:okNm s.f
 args:(∀ a ∈ s.args,okNm a)/\s.args.length<=701
def okSc (s:Sc):Prop:=okNm s.tok
def SOk (x:Stm):Prop:=okStm x/\x.body=[]/\x.els=[]
theorem zhp (n:Nm)(h:n.text=ByteArray.empty):okNm n:=by unfold okNm;rw[h];exact yD _
theorem zcz (h:zO t s=.ok s'):okSc s':=by
 unfold zO at h;simp only at h;split at h
 ·injection h with h;subst h;exact zhp _ rfl
 ·split at h
  ·unfold zdw at h;simp only at h;split at h
   ·cases h
   ·injection h with h;subst h;unfold okSc okNm;simp only[ByteArray.size_extract];omega
  ·split at h
   ·unfold zf6 at h;simp only at h;split at h
    ·cases h
    ·injection h with h;subst h;exact zhp _ rfl
   ·unfold zco at h;split at h
    ·split at h <;> (injection h with h;subst h;exact zhp _ rfl)
    ·cases h
theorem zd0 (h:zt t s c=.ok s'):okSc s':=zcz (zg2 h).2
theorem zhn (h:zb5 t s=.ok p)(hs:okSc s):okNm p.1/\okSc p.2:=by
 obtain⟨_,h1,h2⟩:=zfc h;exact⟨h2 ▸ hs,zcz h1⟩
theorem zic (h:zay t s=.ok p)(hs:okSc s):okNm p.1/\okSc p.2:=by
 obtain⟨_,h1,h2⟩:=zha h;exact⟨h2 ▸ hs,zcz h1⟩
theorem item_ok (h:zdv a t s=.ok p)(hs:okSc s):okNm p.1/\okSc p.2:=by
 unfold zdv at h;split at h
 ·exact zic h hs
 ·exact zhn h hs
theorem zr2 {a:Bool}{t:ByteArray}:∀ (n:Nat) {s:Sc} {p:List Nm×Sc},zat a t n s=.ok p->okSc s->(∀ x ∈ p.1,okNm x)/\okSc p.2
 | 0,s,p,h,hs=>by simp[zat]at h
 | n+1,s,p,h,hs=>by
  rw[zat]at h;obtain⟨q,h1,h2⟩:=zD h;have A:=item_ok h1 hs;split at h2
  ·injection h2 with h2;subst h2;exact⟨by simpa using A.1,A.2⟩
  ·obtain⟨s2,h3,h4⟩:=zD h2;obtain⟨r,h5,h6⟩:=zD h4;have D:=zr2 n h5 (zd0 h3);injection h6 with h6;subst h6;exact⟨by simpa using ⟨A.1,D.1⟩,D.2⟩
theorem zr1 {a:Bool}{t:ByteArray}:∀ (n:Nat) {s:Sc} {p:List Nm×Sc},zat a t n s=.ok p->p.1.length<=n
 | 0,s,p,h=>by simp[zat]at h
 | n+1,s,p,h=>by
  rw[zat]at h;obtain⟨q,h1,h2⟩:=zD h;split at h2
  ·injection h2 with h2;subst h2;simp
  ·obtain⟨s2,h3,h4⟩:=zD h2;obtain⟨r,h5,h6⟩:=zD h4;have A:=zr1 n h5;injection h6 with h6;subst h6;simpa using A
theorem zlq (ht:t.size<=700){p:List Nm×Sc}(h:zcd a t s=.ok p)(hs:okSc s):((∀ x ∈ p.1,okNm x)/\p.1.length<=701)/\okSc p.2:=by
 unfold zcd at h;obtain⟨q,h1,h2⟩:=zD h;obtain⟨s2,h3,h4⟩:=zD h2;injection h4 with h4;subst h4;refine⟨?_,zd0 h3⟩;split at h1
 ·injection h1 with h1;subst h1;simp
 ·refine⟨(zr2 _ h1 hs).1,?_⟩;have:=zr1 _ h1;show q.1.length<=701;omega
theorem zpl (ht:t.size<=700){x:Stm}{p:Stm×Sc}(h:zfv t s x=.ok p)(hs:okSc s)(hx:SOk x):SOk p.1/\okSc p.2:=by
 unfold zfv at h;obtain⟨q,h1,h2⟩:=zD h;obtain⟨s2,h3,h4⟩:=zD h2;obtain⟨r,h5,h6⟩:=zD h4;injection h6 with h6;subst h6;have A:=zlq ht h5 (zd0 h3);exact⟨⟨⟨hx.1.x,hx.1.y,hx.1.z,(zhn h1 hs).1,A.1⟩,hx.2⟩,A.2⟩
theorem field_ok {p:Nat×Sc}(h:zer t s=.ok p)(hs:okSc s):okSc p.2:=by
 unfold zer at h;obtain⟨q,h1,h2⟩:=zD h;have A:=(zhn h1 hs).2;split at h2
 ·injection h2 with h2;subst h2;exact A
 ·split at h2
  ·injection h2 with h2;subst h2;exact A
  ·cases h2
theorem zvs {x:Stm}{p:Stm×Sc}(h:xw t s x=.ok p)(hs:okSc s)(hx:SOk x):SOk p.1/\okSc p.2:=by
 unfold xw at h;simp only at h;generalize (if s.kind=3 then(if s.sign=43 then 1 else if s.sign=45 then 2 else if s.sign=60 then 3 else if s.sign=101 then 4 else 0)else 0)=b at h;split at h
 ·injection h with h;subst h;exact⟨hx,hs⟩
 ·obtain⟨s1,h1,h2⟩:=zD h;obtain⟨q,h3,h4⟩:=zD h2;injection h4 with h4;subst h4;have A:=zic h3 (zcz h1);exact⟨⟨⟨hx.1.x,hx.1.y,A.1,hx.1.f,hx.1.args⟩,hx.2⟩,A.2⟩
theorem zvd (ht:t.size<=700){x:Stm}{p:Stm×Sc}(h:zaj t s x=.ok p)(hs:okSc s)(hx:SOk x):SOk p.1/\okSc p.2:=by
 unfold zaj at h;simp only at h;have E:SOk { x with mark:=s.tok.at_ }:=⟨⟨hx.1.x,hx.1.y,hx.1.z,hx.1.f,hx.1.args⟩,hx.2⟩;split at h
 ·obtain⟨s1,h1,h2⟩:=zD h;injection h2 with h2;subst h2;exact⟨⟨⟨hx.1.x,hx.1.y,hx.1.z,hx.1.f,hx.1.args⟩,hx.2⟩,zcz h1⟩
 ·split at h
  ·obtain⟨s1,h1,h2⟩:=zD h;exact zpl ht h2 (zcz h1) ⟨⟨hx.1.x,hx.1.y,hx.1.z,hx.1.f,hx.1.args⟩,hx.2⟩
  ·obtain⟨q,h1,h2⟩:=zD h;have A:=zic h1 hs;split at h2
   ·obtain⟨s1,h3,h4⟩:=zD h2;obtain⟨r,h5,h6⟩:=zD h4;injection h6 with h6;subst h6;have D:=zlq ht h5 (zcz h3);exact⟨⟨⟨hx.1.x,hx.1.y,hx.1.z,A.1,D.1⟩,hx.2⟩,D.2⟩
   ·split at h2
    ·obtain⟨s1,h3,h4⟩:=zD h2;obtain⟨r,h5,h6⟩:=zD h4;injection h6 with h6;subst h6;exact⟨⟨⟨hx.1.x,A.1,hx.1.z,hx.1.f,hx.1.args⟩,hx.2⟩,field_ok h5 (zcz h3)⟩
    ·exact zvs h2 A.2 ⟨⟨hx.1.x,A.1,hx.1.z,hx.1.f,hx.1.args⟩,hx.2⟩
theorem named_ok (ht:t.size<=700){x:Stm}{p:Stm×Sc}(h:zcy t s x=.ok p)(hs:okSc s)(hx:SOk x):SOk p.1/\okSc p.2:=by
 unfold zcy at h;obtain⟨q,h1,h2⟩:=zD h;obtain⟨r,h3,h4⟩:=zD h2;obtain⟨s2,h5,h6⟩:=zD h4;injection h6 with h6;subst h6;refine⟨?_,zd0 h5⟩;have D:=zhn h1 hs;split at h3
 ·obtain⟨s1,h7,h8⟩:=zD h3;obtain⟨u,I,h10⟩:=zD h8;injection h10 with h10;subst h10;exact⟨⟨hx.1.x,hx.1.y,hx.1.z,D.1,(zlq ht I (zcz h7)).1⟩,hx.2⟩
 ·split at h3
  ·obtain⟨s1,h7,h8⟩:=zD h3;obtain⟨u,I,h10⟩:=zD h8;obtain⟨s3,E,G⟩:=zD h10;obtain⟨v,H,A⟩:=zD G;injection A with A;subst A;exact⟨⟨D.1,(zic H (zd0 E)).1,hx.1.z,hx.1.f,hx.1.args⟩,hx.2⟩
  ·obtain⟨s1,h7,h8⟩:=zD h3;exact(zvd ht h8 (zd0 h7) ⟨⟨D.1,hx.1.y,hx.1.z,hx.1.f,hx.1.args⟩,hx.2⟩).1
def look (k:Nat)(l:List Stm)(j:Nat):Option Stm:=if k<=j then l[j-k]? else none
inductive zc (f:Nat->Option Stm):List Nat->Nat->Nat->Prop
 | nil (k:Nat):zc f [] k k
 | cons {k m n e:Nat} {x:Stm} {r:List Nat}:f k=some x->okStm x->zc f x.body (k+1) m->zc f x.els m n->zc f r n e->zc f (k::r) k e
theorem zc.le {f:Nat->Option Stm}(h:zc f l k e):k<=e:=by
 induction h with
 | nil=>exact yr _
 | cons _ _ _ _ _ h1 h2 h3=>omega
theorem zc.mono {f g:Nat->Option Stm}(h:zc f l k e)(hfg:∀ j x,k<=j->j<e->f j=some x->g j=some x):zc g l k e:=by
 induction h with
 | nil=>exact .nil _
 | cons h0 ho b1 b2 b3 h1 h2 h3 =>
  have A:=b1.le;have D:=b2.le;have E:=b3.le;exact .cons (hfg _ _ yL yo h0) ho (h1 fun j x a b=>hfg j x yo yo) (h2 fun j x a b=>hfg j x yo yo) (h3 fun j x a b=>hfg j x yo yo)
theorem zc.append {f:Nat->Option Stm}{a b:List Nat}{m:Nat}(h:zc f a k m)(h':zc f b m e):zc f (a++b) k e:=by
 induction h with
 | nil=>exact h'
 | cons h0 ho b1 b2 _ _ _ h3=>exact .cons h0 ho b1 b2 (h3 h')
theorem znw {l m:List Stm}(j:Nat)(x:Stm)(h:look k l j=some x):look k (l++m) j=some x:=by
 unfold look at *;split at h
 ·rename_i A;rw[yj A,yz (yh.1 h).1];exact h
 ·cases h
theorem zli {l m:List Stm}(j:Nat)(x:Stm)(h:look (k+l.length) m j=some x):look k (l++m) j=some x:=by
 unfold look at *;split at h
 ·rename_i A;rw[yj yo,yC yo,show j-k-l.length=j-(k+l.length) by omega];exact h
 ·cases h
theorem zlh {x:Stm}{l:List Stm}:look k (x::l) k=some x:=by simp[look]
theorem zlj {x:Stm}{l:List Stm}(j:Nat)(y:Stm)(h:look (k+1) l j=some y):look k (x::l) j=some y:=zli (l:=[x]) j y h
def zi0 (k:Nat)(p:List Nat×List Stm):Prop:=zc (look k p.2) p.1 k (k+p.2.length)
def zct (k:Nat)(l:List Stm):Prop:=zc (look k l) [k] k (k+l.length)
theorem zct.one {x:Stm}(h:SOk x):zct k [x]:=by
 refine .cons (m:=k+1) (n:=k+1) zlh h.1 ?_ ?_ (.nil _)
 ·rw[h.2.1];exact .nil _
 ·rw[h.2.2];exact .nil _
theorem zpy {stmt:Sc->Nat->Except Flt (List Stm×Sc)}(hst:∀ s k p,stmt s k=.ok p->okSc s->zct k p.1/\okSc p.2) :
  ∀ (n:Nat) {s:Sc} {k:Nat} {p:(List Nat×List Stm)×Sc},zcj stmt n s k=.ok p->okSc s->zi0 k p.1/\okSc p.2
 | 0,s,k,p,h,_=>by simp[zcj]at h
 | n+1,s,k,p,h,hs=>by
  rw[zcj]at h;split at h
  ·injection h with h;subst h;exact⟨.nil _,hs⟩
  ·obtain⟨q,h1,h2⟩:=zD h;obtain⟨r,h3,h4⟩:=zD h2;injection h4 with h4;subst h4;have A:=hst _ _ _ h1 hs;have D:=zpy hst n h3 A.2;refine⟨?_,D.2⟩;have h5:=(A.1.mono (g:=look k (q.1++r.1.2)) (fun j x _ _=>znw j x)).append (D.1.mono (g:=look k (q.1++r.1.2)) (fun j x _ _=>zli j x));unfold zi0;rw[yx,<- yc4];exact h5
theorem zpz {stmt:Sc->Nat->Except Flt (List Stm×Sc)}(hst:∀ s k p,stmt s k=.ok p->okSc s->zct k p.1/\okSc p.2){d:Nat}{p:(List Nat×List Stm)×Sc}
  (h:zck t stmt d s k=.ok p):zi0 k p.1/\okSc p.2:=by
 unfold zck at h;split at h
 ·cases h
 ·obtain⟨s1,h1,h2⟩:=zD h;obtain⟨q,h3,h4⟩:=zD h2;obtain⟨s2,h5,h6⟩:=zD h4;injection h6 with h6;subst h6;exact⟨(zpy hst _ h3 (zd0 h1)).1,zd0 h5⟩
theorem zv2 {block:Sc->Nat->Except Flt ((List Nat×List Stm)×Sc)}(hbl:∀ s k p,block s k=.ok p->zi0 k p.1/\okSc p.2){wh:Bool}{x:Stm}{p:List Stm×Sc}
  (h:zgl t block wh s k x=.ok p) (hs:okSc s) (hx:SOk x):zct k p.1/\okSc p.2:=by
 unfold zgl at h;obtain⟨q,h1,h2⟩:=zD h;obtain⟨b,h3,h4⟩:=zD h2;have b1:=zic h1 hs;have b2:=hbl _ _ _ h3;split at h4
 ·exact mPb
 ·split at h4
  ·obtain⟨s1,h5,h6⟩:=zD h4;obtain⟨c,h7,h8⟩:=zD h6;injection h8 with h8;subst h8;have A:=hbl _ _ _ h7;refine⟨?_,A.2⟩;unfold zct;refine .cons zlh ⟨hx.1.x,b1.1,hx.1.z,hx.1.f,hx.1.args⟩ (b2.1.mono fun j x _ _ h=>zlj j x (znw j x h)) (A.1.mono fun j x _ _ h=>zlj j x (zli j x h)) ?_;rw[yai,yx,show k+(b.1.2.length+c.1.2.length+1)=k+1+b.1.2.length+c.1.2.length by omega];exact .nil _
  ·exact mPb
theorem z07 (ht:t.size<=700){block:Sc->Nat->Except Flt ((List Nat×List Stm)×Sc)}(hbl:∀ s k p,block s k=.ok p->zi0 k p.1/\okSc p.2){x:Stm}{p:List Stm×Sc}
  (h:xj t block s k x=.ok p) (hx:SOk x):zct k p.1/\okSc p.2:=by
 unfold xj at h;simp only at h;split at h
 ·obtain⟨s1,h1,h2⟩:=zD h;obtain⟨q,h3,h4⟩:=zD h2;obtain⟨s2,h5,h6⟩:=zD h4;injection h6 with h6;subst h6;exact⟨zct.one ⟨⟨hx.1.x,(zhn h3 (zcz h1)).1,hx.1.z,hx.1.f,hx.1.args⟩,hx.2⟩,zd0 h5⟩
 ·split at h
  ·obtain⟨s1,h1,h2⟩:=zD h;split at h2
   ·obtain⟨s2,h3,h4⟩:=zD h2;injection h4 with h4;subst h4;exact⟨zct.one ⟨⟨hx.1.x,hx.1.y,hx.1.z,hx.1.f,hx.1.args⟩,hx.2⟩,zd0 h3⟩
   ·obtain⟨q,h3,h4⟩:=zD h2;obtain⟨s2,h5,h6⟩:=zD h4;injection h6 with h6;subst h6;exact⟨zct.one ⟨⟨hx.1.x,(zic h3 (zcz h1)).1,hx.1.z,hx.1.f,hx.1.args⟩,hx.2⟩,zd0 h5⟩
  ·split at h
   ·obtain⟨s1,h1,h2⟩:=zD h;exact zv2 hbl h2 (zcz h1) hx
   ·split at h
    ·obtain⟨s1,h1,h2⟩:=zD h;obtain⟨q,h3,h4⟩:=zD h2;obtain⟨s2,h5,h6⟩:=zD h4;injection h6 with h6;subst h6;exact⟨zct.one (zpl ht h3 (zcz h1) ⟨⟨hx.1.x,hx.1.y,hx.1.z,hx.1.f,hx.1.args⟩,hx.2⟩).1,zd0 h5⟩
    ·cases h
theorem zo8 (n:Nat):SOk { at_:=n }:=⟨⟨zhp _ rfl,zhp _ rfl,zhp _ rfl,zhp _ rfl,by simp⟩,rfl,rfl⟩
theorem ztw {t:ByteArray}(ht:t.size<=700):∀ (lvl d:Nat) (s:Sc) (k:Nat) (p:List Stm×Sc),xg t lvl d s k=.ok p->okSc s->zct k p.1/\okSc p.2
 | 0,d,s,k,p,h,_=>by simp[xg]at h
 | lvl+1,d,s,k,p,h,hs=>by
  rw[xg]at h;split at h
  ·exact z07 ht (fun s k p h=>zpz (fun s k p h hs=>ztw ht lvl (d+1) s k p h hs) h) h (zo8 _)
  ·obtain⟨q,h1,h2⟩:=zD h;injection h2 with h2;subst h2;have b:=named_ok ht h1 hs (zo8 _);exact⟨zct.one b.1,b.2⟩
inductive zao (f:Nat->Option Stm):List Dcl->Nat->Nat->Prop
 | nil (k:Nat):zao f [] k k
 | cons {k m e:Nat} {d:Dcl} {r:List Dcl}:okNm d.name->((∀ a ∈ d.params,okNm a)/\d.params.length<=701)->(d.kind=118\/d.kind=109\/d.kind=102)->zc f d.body k m->zao f r m e->zao f (d::r) k e
theorem zao.le {f:Nat->Option Stm}{l:List Dcl}(h:zao f l k e):k<=e:=by
 induction h with
 | nil=>exact yr _
 | cons _ _ _ h1 _ h2=>have:=h1.le;omega
theorem zao.mono {f g:Nat->Option Stm}{l:List Dcl}(h:zao f l k e)(hfg:∀ j x,f j=some x->g j=some x):zao g l k e:=by
 induction h with
 | nil=>exact .nil _
 | cons a b c h1 _ h2=>exact .cons a b c (h1.mono fun j x _ _=>hfg j x) h2
theorem declM_ok (ht:t.size<=700){p:(Dcl×List Stm)×Sc}(h:zcv t s k=.ok p) :
  okNm p.1.1.name/\((∀ a ∈ p.1.1.params,okNm a)/\p.1.1.params.length<=701)/\(p.1.1.kind=118\/p.1.1.kind=109\/p.1.1.kind=102)/\zc (look k p.1.2) p.1.1.body k (k+p.1.2.length):=by
 unfold zcv at h;split at h
 ·obtain⟨s1,h1,h2⟩:=zD h;obtain⟨q,h3,h4⟩:=zD h2;obtain⟨s2,h5,h6⟩:=zD h4;injection h6 with h6;subst h6;refine⟨(zhn h3 (zcz h1)).1,by simp,?_,.nil _⟩;show(if _ then _ else _)=_\/(if _ then _ else _)=_\/_;split <;> simp
 ·split at h
  ·obtain⟨s1,h1,h2⟩:=zD h;obtain⟨q,h3,h4⟩:=zD h2;obtain⟨s2,h5,h6⟩:=zD h4;obtain⟨r,h7,h8⟩:=zD h6;obtain⟨b,A,h10⟩:=zD h8;injection h10 with h10;subst h10;exact⟨(zhn h3 (zcz h1)).1,(zlq ht h7 (zd0 h5)).1,.inr (.inr rfl),(zpz (fun s k p h D=>ztw ht 6 1 s k p h D) A).1⟩
  ·cases h
theorem zqk {t:ByteArray}(ht:t.size<=700):∀ (n:Nat) {s:Sc} {k:Nat} {p:List Dcl×List Stm},zb0 t n s k=.ok p->zao (look k p.2) p.1 k (k+p.2.length)
 | 0,s,k,p,h=>by simp[zb0]at h
 | n+1,s,k,p,h=>by
  rw[zb0]at h;split at h
  ·injection h with h;subst h;exact .nil _
  ·obtain⟨q,h1,h2⟩:=zD h;obtain⟨r,h3,h4⟩:=zD h2;injection h4 with h4;subst h4;obtain⟨a,b,c,d⟩:=declM_ok ht h1;have A:=zqk ht n h3;rw[yx,<- yc4];exact .cons a b c (d.mono fun j x _ _=>znw j x) (A.mono fun j x=>zli j x)
theorem zy5 {p:List Dcl×List Stm}(h:zc1 t=.ok p):zao (fun j=>p.2[j]?) p.1 0 p.2.length:=by
 unfold zc1 at h;split at h
 ·cases h
 ·rename_i ht;have ht:t.size<=700:=yo;obtain⟨s,h1,h2⟩:=zD h;have b:=zqk ht _ h2;rw[ybf]at b;exact b.mono fun j x h=>by simpa [look] using h
structure Ar where
 c:Bool:=false
 n:Nat:=0
structure In where
 op:Nat:=0
 place:Int:=0
 fn:Nat:=0
 x:Int:=0
 y:Ar:={}
 z:Ar:={}
 bin:Nat:=0
 var:Nat:=0
 site:Nat:=0
 call:Nat:=0
 args:List Ar:=[]
 to:Nat:=0
structure Fu where
 name:ByteArray
 params:Nat
 locals:Nat:=0
 from_:Nat:=0
 to:Nat:=0
abbrev NMap:=List (ByteArray×Nat)
structure Lo where
 vars:NMap:=[]
 qu:NMap:=[]
 qm:NMap:=[]
 qc:NMap:=[]
 fs:List Fu:=[]
 code:List In:=[]
 at_:List Nat:=[]
 news:List Nat:=[]
 qg:List Nat:=[]
 fn:Nat:=0
 nv:Nat:=0
 nm:Nat:=0
def Lo.known (s:Lo)(n:ByteArray):Bool:=(mget s.vars n).isSome||(mget s.qu n).isSome||(mget s.qm n).isSome
def xr (s:Lo)(n:Nm):Except Flt (Nat×Lo) :=
 if s.known n.text then .error ⟨9,n.at_⟩else
 match mget s.qc n.text with
 | some k=>.ok (k,s)
 | none=>if s.qc.length=6 then .error ⟨8,n.at_⟩else .ok (s.qc.length,{ s with qc:=mput s.qc n.text s.qc.length })
def argM (s:Lo)(n:Nm):Except Flt (Ar×Lo) :=
 if n.num then .ok ({ c:=true,n:=n.n },s)else zB (xr s n) fun p=>.ok ({ n:=p.1 },p.2)
def zbd:Lo->List Nm->Except Flt (List Ar×Lo)
 | s,[]=>.ok ([],s)
 | s,n::r=>zB (argM s n) fun p=>zB (zbd p.2 r) fun q=>.ok (p.1::q.1,q.2)
def Lo.je (s:Lo)(c:Nat):Nat:=match s.fs[c]? with | some f=>f.params | none=>0
def zbe (s:Lo)(t:Stm)(x:In):Except Flt (In×Lo) :=
 match mget s.qm t.f.text with
 | none=>.error ⟨9,t.f.at_⟩
 | some c=>if t.args.length=s.je c then zB (zbd s t.args) fun p=>.ok ({ x with call:=c,args:=x.args++p.1 },p.2)else .error ⟨10,t.f.at_⟩
def Lo.emit (s:Lo)(x:In):Lo:={ s with code:=s.code++[{ x with fn:=s.fn }] }
def xt (s:Lo)(t:Stm)(x:In):Except Flt (In×Lo) :=
 if t.op=6 then
  if s.news.length=6 then .error ⟨8,t.mark⟩else .ok ({ x with site:=s.news.length },{ s with news:=s.news++[s.code.length] })
 else if t.op=7 then
  if s.qg.length=5 then .error ⟨8,t.mark⟩else zbe { s with qg:=s.qg++[s.code.length] } t { x with site:=s.qg.length }
 else if t.op=11 then zbe s t x
 else zB (argM s t.y) fun p=>.ok ({ x with y:=p.1 },p.2)
def setM (s:Lo)(t:Stm)(x:In):Except Flt Lo :=
 match mget s.vars t.x.text with
 | some v=>if t.bin=0 then zB (argM s t.y) fun p=>.ok (p.2.emit { x with op:=3,var:=v,y:=p.1 })else .error ⟨9,t.x.at_⟩
 | none=>zB (xr s t.x) fun p =>
  match(if t.y.num=false/\t.bin=0 then mget p.2.vars t.y.text else none)with
  | some v=>.ok (p.2.emit { x with x:=p.1,op:=2,var:=v })
  | none=>zB (argM p.2 t.y) fun q =>
   if t.bin=0 then .ok (q.2.emit { x with x:=p.1,y:=q.1 })else zB (argM q.2 t.z) fun r=>.ok (r.2.emit { x with x:=p.1,y:=q.1,z:=r.1 })
def Lo.patch (s:Lo)(k:Nat):Lo:={ s with code:=s.code.modify k fun i=>{ i with to:=s.code.length } }
def zgq (to:Nat):In:={ op:=20,place:=-1,x:=-1,to:=to }
def zbz (block:Lo->List Nat->Except Flt Lo)(s:Lo)(t:Stm)(x:In):Except Flt Lo :=
 zB (argM s t.y) fun p =>
 zB (block (p.2.emit { x with y:=p.1 }) t.body) fun s2 =>
 if t.op=14 then .ok ((s2.emit (zgq p.2.code.length)).patch p.2.code.length)
 else if t.has then
  zB (block ((s2.emit (zgq 0)).patch p.2.code.length) t.els) fun s3=>.ok (s3.patch s2.code.length)
 else .ok (s2.patch p.2.code.length)
def Lo.note (s:Lo)(place at_:Nat):Lo:={ s with at_:=(s.at_++List.replicate (place+1-s.at_.length) 0).set place at_ }
def zhq (s:Lo)(t:Stm)(x:In):Except Flt Lo :=
 if t.op=9\/t.op=10 then
  match mget s.qu t.y.text with
  | some v=>.ok (s.emit { x with var:=v })
  | none=>.error ⟨9,t.y.at_⟩
 else if t.op=8 then zB (argM s t.y) fun p=>.ok (p.2.emit { x with y:=p.1 })
 else if t.op=12 then
  if t.has then zB (argM s t.y) fun p=>.ok (p.2.emit { x with y:=p.1 })else .ok (s.emit { x with y:={ c:=true } })
 else if t.op=5 then zB (xr s t.x) fun p=>zB (argM p.2 t.y) fun q=>.ok (q.2.emit { x with x:=p.1,y:=q.1 })
 else if t.x.text.size=0 then zB (xt s t x) fun p=>.ok (p.2.emit p.1)
 else zB (xr s t.x) fun p=>zB (xt p.2 t { x with x:=p.1 }) fun q=>.ok (q.2.emit q.1)
def xz (t:Stm)(place:Nat):In:={ op:=t.op,place:=place,x:=-1,bin:=t.bin,var:=t.field }
def zcf (block:Lo->List Nat->Except Flt Lo)(s:Lo)(t:Stm)(place:Nat):Except Flt Lo :=
 if 48<=place then .error ⟨8,t.at_⟩else
 if t.op=1 then setM (s.note place t.at_) t (xz t place)
 else if t.op=13\/t.op=14 then zbz block (s.note place t.at_) t (xz t place)
 else zhq (s.note place t.at_) t (xz t place)
def zd (xs:List Stm):Nat->Lo->List Nat->Except Flt Lo
 | 0,_,_=>.error ⟨99,0⟩
 | _+1,s,[]=>.ok s
 | n+1,s,k::r =>
  match xs[k]? with
  | some t=>zB (zcf (zd xs n) s t k) fun s2=>zd xs n s2 r
  | none=>.error ⟨99,0⟩
def zab (s:Lo)(d:Dcl):Except Flt Lo :=
 if s.known d.name.text then .error ⟨7,d.name.at_⟩else
 if d.kind=118 then
  if s.vars.length=5 then .error ⟨8,d.name.at_⟩else .ok { s with vars:=mput s.vars d.name.text s.vars.length,nv:=(mput s.vars d.name.text s.vars.length).length,nm:=s.qu.length }
 else if d.kind=109 then
  if s.qu.length=3 then .error ⟨8,d.name.at_⟩else .ok { s with qu:=mput s.qu d.name.text s.qu.length,nv:=s.vars.length,nm:=(mput s.qu d.name.text s.qu.length).length }
 else
  if s.qm.length=5 then .error ⟨8,d.name.at_⟩else .ok { s with qm:=mput s.qm d.name.text s.qm.length,fs:=s.fs++[{ name:=d.name.text,params:=d.params.length }],nv:=s.vars.length,nm:=s.qu.length }
def zhc:Lo->List Dcl->Except Flt Lo
 | s,[]=>.ok s
 | s,d::r=>zB (zab s d) fun s2=>zhc s2 r
def zff (s:Lo):List Nm->Nat->NMap->Except Flt Unit
 | [],_,_=>.ok ()
 | n::r,k,seen =>
  if s.known n.text||(mget seen n.text).isSome then .error ⟨7,n.at_⟩else
  if k=3 then .error ⟨8,n.at_⟩else zff s r (k+1) (mput seen n.text 1)
def zg9 (s:Lo):List Dcl->Except Flt Unit
 | []=>.ok ()
 | d::r=>zB (zff s d.params 0 []) fun _=>zg9 s r
def zdz (l:List Nm):NMap:=l.foldl (fun m n=>mput m n.text m.length) []
def zee:In:={ op:=12,place:=-1,x:=-1,y:={ c:=true } }
def Lo.begin_ (s:Lo)(d:Dcl)(fn:Nat):Lo:={ s with fn:=fn,qc:=zdz d.params,fs:=s.fs.modify fn fun f=>{ f with from_:=s.code.length } }
def Lo.end_ (s:Lo)(fn:Nat):Lo:={ s with fs:=s.fs.modify fn fun f=>{ f with to:=s.code.length,locals:=s.qc.length } }
def zig (xs:List Stm)(s:Lo)(d:Dcl)(fn:Nat):Except Flt Lo :=
 zB (zd xs (xs.length+2) (s.begin_ d fn) d.body) fun s2=>.ok ((s2.emit zee).end_ fn)
def ze6 (xs:List Stm):Lo->List Dcl->Nat->Except Flt Lo
 | s,[],_=>.ok s
 | s,d::r,fn=>if d.kind=102 then zB (zig xs s d fn) fun s2=>ze6 xs s2 r (fn+1)else ze6 xs s r fn
structure Pr where
 ds:List Dcl
 xs:List Stm
 nv:Nat
 nm:Nat
 fs:List Fu
 code:List In
 at_:List Nat
 news:List Nat
 qg:List Nat
 main:Nat
def zel:ByteArray:=bytes [109,97,105,110]
def lowerM (ds:List Dcl)(xs:List Stm):Except Flt Pr :=
 zB (zhc {} ds) fun s=>zB (zg9 s ds) fun _=>zB (ze6 xs s ds 0) fun s =>
 match mget s.qm zel with
 | none=>.error ⟨11,0⟩
 | some m=>if 0<s.je m then .error ⟨11,0⟩else .ok { ds:=ds,xs:=xs,nv:=s.nv,nm:=s.nm,fs:=s.fs,code:=s.code,at_:=s.at_,news:=s.news,qg:=s.qg,main:=m }
def z8 (t:ByteArray):Except Flt Pr:=zB (zc1 t) fun p=>lowerM p.1 p.2
inductive Jj | mk (i:In) (v:Value)
instance {i:In} {v:Value}:CoeDep Jj (.mk i v) (Array Value):=⟨#[.int .i64 (i.op:Int),.int .i64 i.place,.int .i64 (i.fn:Int),.int .i64 i.x,.bool i.y.c,.int .i64 (i.y.n:Int),.bool i.z.c,.int .i64 (i.z.n:Int),.int .i64 (i.bin:Int),.int .i64 (i.var:Int),.int .i64 (i.site:Int),.int .i64 (i.call:Int),v,.int .i64 (i.to:Int)]⟩
inductive Jk | mk (f s:Nat) (g:Nat→Nat) (P:Pr)
instance {f s:Nat} {g:Nat→Nat} {P:Pr}:CoeDep Jk (.mk f s g P) (Array Value):=⟨#[.pointer (some ⟨f,0,none⟩),.pointer (some ⟨s,0,none⟩),.slice (some ⟨g 0,0,none⟩) P.code.length P.code.length,.slice (some ⟨g 1,0,none⟩) P.fs.length P.fs.length,.slice (some ⟨g 2,0,none⟩) P.fs.length P.fs.length,.slice (some ⟨g 3,0,none⟩) P.fs.length P.fs.length,.slice (some ⟨g 4,0,none⟩) P.code.length P.code.length,.slice (some ⟨g 5,0,none⟩) P.fs.length P.fs.length,.slice (some ⟨g 6,0,none⟩) P.fs.length P.fs.length]⟩
end Go.Proofs.YtkmcihhndgdhpaaGreat
namespace Array
abbrev j:=Go.Proofs.YtkmcihhndgdhpaaGreat.Jj.mk
abbrev k:=Go.Proofs.YtkmcihhndgdhpaaGreat.Jk.mk
end Array
namespace Go.Proofs.YtkmcihhndgdhpaaGreat
variable {t:ByteArray}{s s':Sc}{k e B n g:Nat}{c:UInt8}{p:Nm×Sc}{v:Value}{a:Bool}{l:List Nat}{w:World}{cs:Array Value}
section
attribute [local go_sem] zT
theorem tyName:zj prog 221 220 4 40:=zj.mk' underlying221 zxt rfl yo yo
theorem zm {B':Nat}{e:TypeId}{size:Nat}{xs:List Value}(h:w.ownsRow B e size v n xs)(hB:B'<=B):w.ownsRow B' e size v n xs:=by
 obtain⟨h1,h2⟩:=h;refine⟨h1,h2.imp id ?_⟩;rintro⟨g,cap,A,hv,D,r⟩;exact⟨g,cap,A,hv,ya hB D,r⟩
def zeb (atoms:Bool)(t:ByteArray)(s:Sc):Except Flt (List Nm×Sc):=if isM s 41 then .ok ([],s)else zat atoms t (t.size+1) s
def NamesRel (C:PC)(w0:World)(M:Except Flt (List Nm×Sc))(atoms:Bool)(n:Nat)(v5 v6:Value)(wr:World):Prop :=
 ∃ (acc:List Nm) (s:Sc) (fl:Bool),v6=.bool fl/\xp wr w0.heap.size v5 acc/\Env C wr s/\Chg C.B [] [C.sb] w0 wr/\acc.length<=s.at_ /\
  ((fl=true/\n=0/\M=.ok (acc,s))\/(fl=false/\C.t.size-s.at_<n/\M=zB (zat atoms C.t n s) fun q=>.ok (acc++q.1,q.2)))
theorem zrh {atoms:Bool}{t:ByteArray}{s:Sc}{p:Nm×Sc}(h:zdv atoms t s=.ok p):zO t s=.ok p.2:=by
 unfold zdv at h;split at h
 ·exact(zha h).2.1
 ·exact(zfc h).2.1
theorem zrf {s:Sc}(h:isM s c=true):s.kind≠0:=by
 unfold isM at h;simp only[yH,beq_iff_eq]at h;omega
section
variable {t:ByteArray} {s0 s s2:Sc} {a:Bool} {acc:List Nm} {p:Nm×Sc} {m:Nat} {f:Flt}
theorem zr5 (hM:zeb a t s0=zB (zat a t (m+1) s) fun q=>.ok (acc++q.1,q.2))(h1:zdv a t s=.ok p)(h2:isM p.2 41=true):zeb a t s0=.ok (acc++[p.1],p.2):=by
 rw[hM,zat,h1,zF,yj h2,zF]
theorem zr8 (hM:zeb a t s0=zB (zat a t (m+1) s) fun q=>.ok (acc++q.1,q.2))(h1:zdv a t s=.ok p)(h2:isM p.2 41=false)(h3:zt t p.2 44=.ok s2) :
  zeb a t s0=zB (zat a t m s2) fun q=>.ok ((acc++[p.1])++q.1,q.2):=by
 rw[hM,zat,h1,zF,yg (by rw[h2];simp),h3,zF,zhd];congr 1;funext q
 rw[zF];simp
theorem zr6 (hM:zeb a t s0=zB (zat a t (m+1) s) fun q=>.ok (acc++q.1,q.2))(h1:zdv a t s=.error f):zcd a t s0=.error f:=by
 show zB (zeb a t s0) _=_;rw[hM,zat,h1];rfl
theorem zr7 (hM:zeb a t s0=zB (zat a t (m+1) s) fun q=>.ok (acc++q.1,q.2))(h1:zdv a t s=.ok p)(h2:isM p.2 41=false)(h3:zt t p.2 44=.error f):zcd a t s0=.error f:=by
 show zB (zeb a t s0) _=_;rw[hM,zat,h1,zF,yg (by rw[h2];simp),h3];rfl
theorem zr4 (h1:zdv a t s=.ok p)(h2:isM p.2 41=true)(hs:s.at_<=t.size):s.at_<p.2.at_:=(zfd (zrh h1) hs).2.2 (zrf h2)
theorem zr3 (h1:zdv a t s=.ok p)(h3:zt t p.2 44=.ok s2)(hs:s.at_<=t.size):s.at_<s2.at_/\s2.at_<=t.size:=by
 have h4:=zfd (zrh h1) hs;have h5:=zfd (zg2 h3).2 h4.1;have h6:=h4.2.2 (zrf (zg2 h3).1);omega
end
theorem zj7 (C:PC)(w:World)(s0:Sc)(atoms:Bool)(E:Env C w s0) :
  Calls prog 246 #[.p C.pb,.bool atoms] w
   (Post C.B [] [C.sb] w (zcd atoms C.t s0) (fun p v w'=>xp w' w.heap.size v p.1/\Env C w' p.2)):=by
 have hp:=E.p.cell;have HE:=zH E;have hz:0<w.heap.size+1:=yo;clear E;go_enter func246,ntmps246;go_wp2_with (go_at_call 291;refine(zy HE.o 41).mono ?_;rintro e w' ⟨rfl,rfl⟩);go_loopg [5,6] (if isM s0 41 then 0 else C.t.size+1) (fun n v5 v6 wr=>NamesRel C w (zeb atoms C.t s0) atoms n v5 v6 wr)
 case atStart =>
  refine⟨[],s0,isM s0 41,rfl,yA _ _ _ _,HE.o,Chg.refl _ _ _ _,yD _,?_⟩;cases h:isM s0 41
  ·right;refine⟨rfl,by simp;omega,?_⟩;unfold zeb;rw[h];simp only[yI,if_false,yas];cases zat atoms C.t (C.t.size+1) s0 <;> rfl
  ·left;refine⟨rfl,by simp,?_⟩;unfold zeb;rw[h];rfl
 case round =>
  obtain⟨K,s,fl,rfl,ac,hE,aq,ap,aj⟩:=hrel;have HR:=zH ac;have a2:=zH hE;have HC:=zH aq;have ax:=hE.p.cell;have au:=Blk.cell hE.sc;have aw:=hE.p.lt;have ay:=Blk.lt hE.sc;have b1:K.length<=700:=ya ap (ya hE.at_ hE.tsz);clear ac hE aq hp;rcases aj with⟨rfl,hn,hM⟩ | ⟨rfl,hn,hM⟩
  ·have MD:=zH (show zcd atoms C.t s0=zB (zt C.t s 41) fun s2=>.ok (K,s2) by
    show zB (zeb atoms C.t s0) _=_;rw[hM];rfl)
   clear hM hn;go_wp2_with fail;refine(zbc a2.o 41).mono ?_;rintro e w1 (⟨s1,v,J,rfl,⟨rfl,O⟩,A⟩ | ⟨f,b,J,rfl,Y,Z,A⟩)
   ·have aa:=zH (za9 HR.o A yy (by
     intro k hk;have:=(HR.o.lt k hk).1;have:=Blk.lt HE.o.sc;simp;omega))
    have I:=zH J;have a7:=zH O;have a6:=zH (HC.o.trans A);clear J O A;go_wp2;go_ret;exact .inl ⟨(K,s1),_,MD.o.trans (by rw[I.o];rfl),rfl,⟨aa.o,a7.o⟩,a6.o⟩
   ·exact⟨rfl,.inr ⟨_,_,MD.o.trans (by rw[J];rfl),rfl,Y,ya HC.o.size Z,HC.o.trans A⟩⟩
  ·have MD:=zH hM;have N:=zH hn;clear hM hn;cases atoms
   ·go_wp2_with fail;refine(zfb (a2.o.alloc _)).mono ?_;rintro e w1 (⟨p,v,J,rfl,⟨rfl,O⟩,A⟩ | ⟨f,b,J,rfl,Y,Z,A⟩)
    ·have a0:=Blk.vh (g:=wr.heap.size) (Blk.newAt rfl) A yy (by simp;omega);have ak:=Blk.cell a0;have am:=Blk.frozen a0;have aa:=zH (za9 (HR.o.alloc _) A yy (by
      intro k hk;have:=(HR.o.lt k hk).1;have:=Blk.lt HE.o.sc;simp;omega))
     have I:=zH J;have a7:=zH O;have a6:=zH ((HC.o.alloc _).trans A);have an:=O.p.cell;have b3:wr.heap.size<w1.heap.size:=a0.lt;clear J O A a0 au ax;go_wp2_with (at_builtin;refine zbj ?_);refine zbk ?_;refine zuq (fun W=>Below wr.heap.size w1 W/\Blk W w1.heap.size 220 (zcn p.1).toArray/\W.heap.size=w1.heap.size+1) ⟨by go_grown,Blk.newAt yy,by simp⟩ ?_;rintro W ⟨U,a1,ao⟩;have S:=zbn aa.o U (fun k hk=>(HR.o.lt k hk).2);have ah:=zH (Env.below a7.o U aw ay);have ag:=zH (zp9 a6.o U HC.o.size);refine ze2 tyName rfl _ _ rfl w.heap.size _ K.length (K.flatMap zcn) _ _ _ S a1 rfl (by rfl) rfl (by simp[zcn,Value.oneCell']) yo (yq HC.o.size) ?_;intro g cap w2 L a5 ab;have a4:=Env.append ah.o S a5 yd yd;have a8:=Chg.append ag.o S a5 (ya HE.o.bs (yaw (Blk.lt HE.o.sc))) (.inr yL);clear U a1 ao S;have b2:=a4.p.cell;have R:=zH a4;have Q:=zH a8;have a3:=zH L;clear a4 a8 L a5 ab ak am an;cases his:isM p.2 41
     ·have H:=zH his;clear his;go_wp2_with (go_at_call 291;refine(zy R.o 41).mono ?_;rw[H.o];rintro e w' ⟨rfl,rfl⟩);refine(zbc R.o 44).mono ?_;rintro e w3 (⟨s2,v,J,rfl,⟨rfl,a9⟩,G⟩ | ⟨f,b,J,rfl,Y,Z,G⟩)
      ·have af:=zH (za9 a3.o G yy (by
        intro k hk;have:=(a3.o.lt k hk).1;have:=Blk.lt HE.o.sc;simp;omega))
       have HW:=zH J;have ae:=zH a9;have ad:=zH (Q.o.trans G);clear J a9 G;go_wp2_with fail;obtain⟨m,hm⟩:∃ m,gk=m+1:=⟨gk-1,by have:=N.o;omega⟩;have D:=MD.o;rw[hm]at D;obtain⟨ai,az⟩:=zr3 (a:=false) I.o HW.o a2.o.at_;go_roundg m
       case measure=>omega
       case rel =>
        refine⟨K++[p.1],s2,false,rfl,?_,ae.o,ad.o,by simp;omega,.inr ⟨rfl,by have:=N.o;omega,zr8 (a:=false) D I.o H.o HW.o⟩⟩;have:=af.o;simpa [xp] using this
      ·obtain⟨m,hm⟩:∃ m,gk=m+1:=⟨gk-1,by have:=N.o;omega⟩;have D:=MD.o;rw[hm]at D;exact⟨rfl,.inr ⟨_,_,zr7 (a:=false) D I.o H.o J,rfl,Y,ya Q.o.size Z,Q.o.trans G⟩⟩
     ·have H:=zH his;clear his;go_wp2_with (go_at_call 291;refine(zy R.o 41).mono ?_;rw[H.o];rintro e w' ⟨rfl,rfl⟩);obtain⟨m,hm⟩:∃ m,gk=m+1:=⟨gk-1,by have:=N.o;omega⟩;have D:=MD.o;rw[hm]at D;have ai:=zr4 (a:=false) I.o H.o a2.o.at_;go_roundg 0
      case measure=>omega
      case rel =>
       refine⟨K++[p.1],p.2,true,rfl,?_,R.o,Q.o,by simp;omega,.inl ⟨rfl,rfl,zr5 (a:=false) D I.o H.o⟩⟩;have:=a3.o;simpa [xp] using this
    ·obtain⟨m,hm⟩:∃ m,gk=m+1:=⟨gk-1,by have:=N.o;omega⟩;have D:=MD.o;rw[hm]at D;exact⟨rfl,.inr ⟨_,_,zr6 (a:=false) D J,rfl,Y,ya (HC.o.alloc _).size Z,(HC.o.alloc _).trans A⟩⟩
   ·go_wp2_with fail;refine(zfw (a2.o.alloc _)).mono ?_;rintro e w1 (⟨p,v,J,rfl,⟨rfl,O⟩,A⟩ | ⟨f,b,J,rfl,Y,Z,A⟩)
    ·have a0:=Blk.vh (g:=wr.heap.size) (Blk.newAt rfl) A yy (by simp;omega);have ak:=Blk.cell a0;have am:=Blk.frozen a0;have aa:=zH (za9 (HR.o.alloc _) A yy (by
      intro k hk;have:=(HR.o.lt k hk).1;have:=Blk.lt HE.o.sc;simp;omega))
     have I:=zH J;have a7:=zH O;have a6:=zH ((HC.o.alloc _).trans A);have an:=O.p.cell;have b3:wr.heap.size<w1.heap.size:=a0.lt;clear J O A a0 au ax;go_wp2_with (at_builtin;refine zbj ?_);refine zbk ?_;refine zuq (fun W=>Below wr.heap.size w1 W/\Blk W w1.heap.size 220 (zcn p.1).toArray/\W.heap.size=w1.heap.size+1) ⟨by go_grown,Blk.newAt yy,by simp⟩ ?_;rintro W ⟨U,a1,ao⟩;have S:=zbn aa.o U (fun k hk=>(HR.o.lt k hk).2);have ah:=zH (Env.below a7.o U aw ay);have ag:=zH (zp9 a6.o U HC.o.size);refine ze2 tyName rfl _ _ rfl w.heap.size _ K.length (K.flatMap zcn) _ _ _ S a1 rfl (by rfl) rfl (by simp[zcn,Value.oneCell']) yo (yq HC.o.size) ?_;intro g cap w2 L a5 ab;have a4:=Env.append ah.o S a5 yd yd;have a8:=Chg.append ag.o S a5 (ya HE.o.bs (yaw (Blk.lt HE.o.sc))) (.inr yL);clear U a1 ao S;have b2:=a4.p.cell;have R:=zH a4;have Q:=zH a8;have a3:=zH L;clear a4 a8 L a5 ab ak am an;cases his:isM p.2 41
     ·have H:=zH his;clear his;go_wp2_with (go_at_call 291;refine(zy R.o 41).mono ?_;rw[H.o];rintro e w' ⟨rfl,rfl⟩);refine(zbc R.o 44).mono ?_;rintro e w3 (⟨s2,v,J,rfl,⟨rfl,a9⟩,G⟩ | ⟨f,b,J,rfl,Y,Z,G⟩)
      ·have af:=zH (za9 a3.o G yy (by
        intro k hk;have:=(a3.o.lt k hk).1;have:=Blk.lt HE.o.sc;simp;omega))
       have HW:=zH J;have ae:=zH a9;have ad:=zH (Q.o.trans G);clear J a9 G;go_wp2_with fail;obtain⟨m,hm⟩:∃ m,gk=m+1:=⟨gk-1,by have:=N.o;omega⟩;have D:=MD.o;rw[hm]at D;obtain⟨ai,az⟩:=zr3 (a:=true) I.o HW.o a2.o.at_;go_roundg m
       case measure=>omega
       case rel =>
        refine⟨K++[p.1],s2,false,rfl,?_,ae.o,ad.o,by simp;omega,.inr ⟨rfl,by have:=N.o;omega,zr8 (a:=true) D I.o H.o HW.o⟩⟩;have:=af.o;simpa [xp] using this
      ·obtain⟨m,hm⟩:∃ m,gk=m+1:=⟨gk-1,by have:=N.o;omega⟩;have D:=MD.o;rw[hm]at D;exact⟨rfl,.inr ⟨_,_,zr7 (a:=true) D I.o H.o J,rfl,Y,ya Q.o.size Z,Q.o.trans G⟩⟩
     ·have H:=zH his;clear his;go_wp2_with (go_at_call 291;refine(zy R.o 41).mono ?_;rw[H.o];rintro e w' ⟨rfl,rfl⟩);obtain⟨m,hm⟩:∃ m,gk=m+1:=⟨gk-1,by have:=N.o;omega⟩;have D:=MD.o;rw[hm]at D;have ai:=zr4 (a:=true) I.o H.o a2.o.at_;go_roundg 0
      case measure=>omega
      case rel =>
       refine⟨K++[p.1],p.2,true,rfl,?_,R.o,Q.o,by simp;omega,.inl ⟨rfl,rfl,zr5 (a:=true) D I.o H.o⟩⟩;have:=a3.o;simpa [xp] using this
    ·obtain⟨m,hm⟩:∃ m,gk=m+1:=⟨gk-1,by have:=N.o;omega⟩;have D:=MD.o;rw[hm]at D;exact⟨rfl,.inr ⟨_,_,zr6 (a:=true) D J,rfl,Y,ya (HC.o.alloc _).size Z,(HC.o.alloc _).trans A⟩⟩
end
section
def zz (w:World)(B:Nat)(v:Value)(l:List Nat):Prop:=w.ownsRow B 3 1 v l.length (l.map fun n:Nat=>Value.int .i64 (n:Int))
def xf (x:Stm)(av bv ev:Value):Array Value :=
 #[.i x.op,.i x.at_,.i x.mark,
  .string x.x.text,.i x.x.at_,.bool x.x.num,.i x.x.n,
  .string x.y.text,.i x.y.at_,.bool x.y.num,.i x.y.n,
  .string x.z.text,.i x.z.at_,.bool x.z.num,.i x.z.n,
  .string x.f.text,.i x.f.at_,.bool x.f.num,.i x.f.n,
  av,.i x.bin,.i x.field,.bool x.has,bv,ev]
def zE (w:World)(B xb:Nat)(x:Stm):Prop :=
 ∃ av bv ev,Blk w xb 439 (xf x av bv ev)/\xp w B av x.args/\zz w B bv x.body/\zz w B ev x.els
section
variable {w w1:World} {B xb:Nat} {x x':Stm}
theorem zE.blk (h:zE w B xb x):∃ cs,Blk w xb 439 cs:=by
 obtain⟨_,_,_,h,_⟩:=h;exact⟨_,h⟩
theorem zE.lt (h:zE w B xb x):xb<w.heap.size:=by
 obtain⟨_,h⟩:=h.blk;exact h.lt
theorem zE.ne {t:TypeId}(h:zE w B xb x)(hg:Blk w g t cs)(ht:t≠439):g≠xb:=by
 obtain⟨_,h⟩:=h.blk;exact hg.qs h ht
theorem xy {e t:TypeId}{size:Nat}{ys:List Value}(h:w.ownsRow B e size v n ys)(hg:Blk w g t cs)(hne:e≠t):∀ k,v.ownBlock=some k->k≠g:=by
 intro k D;rcases h.2 with⟨rfl,_⟩ | ⟨E,cap,A,rfl,_,G,_⟩
 ·simp[Value.ownBlock]at D
 ·have:E=k:=by simpa [Value.ownBlock] using D
  subst this;rintro rfl;exact hne (Blk.inj (cs:=A) G hg).1
theorem zE.cells (h:zE w B xb x):∃ av bv ev,(∀ i,w.cell? (.a xb i)=#[.i x.op,.i x.at_,.i x.mark,
  .string x.x.text,.i x.x.at_,.bool x.x.num,.i x.x.n,
  .string x.y.text,.i x.y.at_,.bool x.y.num,.i x.y.n,
  .string x.z.text,.i x.z.at_,.bool x.z.num,.i x.z.n,
  .string x.f.text,.i x.f.at_,.bool x.f.num,.i x.f.n,
  av,.i x.bin,.i x.field,.bool x.has,bv,ev][i]?)/\(∀ i,w.frozen? (.a xb i)=false):=by
 obtain⟨av,bv,ev,h,_⟩:=h;exact⟨av,bv,ev,h.cell,h.frozen⟩
theorem zE.vh {B':Nat}{ts:List TypeId}{xs:List Nat}(h:zE w B xb x)(hc:Chg B' ts xs w w1)(h1:439 ∉ ts)(h2:220 ∉ ts)(h3:3 ∉ ts)
  (hx:∀ g ∈ xs,∃ t cs,Blk w g t cs/\t≠439/\t≠220/\t≠3):zE w1 B xb x:=by
 obtain⟨av,bv,ev,hb,E,A,G⟩:=h;refine⟨av,bv,ev,hb.vh hc h1 ?_,za9 E hc h2 ?_,za9 A hc h3 ?_,za9 G hc h3 ?_⟩
 ·intro hm;obtain⟨t,cs,h4,h5,_,_⟩:=hx _ hm;exact h5 (Blk.inj h4 hb).1
 ·intro k D hm;obtain⟨t,cs,h4,_,h5,_⟩:=hx _ hm;exact xy E h4 (fun e=>h5 e.symm) k D rfl
 ·intro k D hm;obtain⟨t,cs,h4,_,_,h5⟩:=hx _ hm;exact xy A h4 (fun e=>h5 e.symm) k D rfl
 ·intro k D hm;obtain⟨t,cs,h4,_,_,h5⟩:=hx _ hm;exact xy G h4 (fun e=>h5 e.symm) k D rfl
theorem zE.vy (h:zE w B xb x)(i:Nat)(u:Value)(hx:∀ av bv ev,(xf x av bv ev).setIfInBounds i u=xf x' av bv ev)(ha:x'.args=x.args)(hb:x'.body=x.body)(he:x'.els=x.els) :
  zE (w.setCell (.a xb i) u) B xb x':=by
 obtain⟨av,bv,ev,A,h1,h2,h3⟩:=h;refine⟨av,bv,ev,(A.qe i u).cast (hx _ _ _),?_,?_,?_⟩
 ·rw[ha];exact zL h1 A yd i u
 ·rw[hb];exact zL h2 A yd i u
 ·rw[he];exact zL h3 A yd i u
theorem zE.qx (h:zE w B xb x)(n:Nat):zE (w.setCell (.a xb 0) (.i n)) B xb { x with op:=n }:=h.vy 0 _ (fun _ _ _=>by simp[xf]) rfl rfl rfl
theorem zE.setMark (h:zE w B xb x)(n:Nat):zE (w.setCell (.a xb 2) (.i n)) B xb { x with mark:=n }:=h.vy 2 _ (fun _ _ _=>by simp[xf]) rfl rfl rfl
theorem zE.setBin (h:zE w B xb x)(n:Nat):zE (w.setCell (.a xb 20) (.i n)) B xb { x with bin:=n }:=h.vy 20 _ (fun _ _ _=>by simp[xf]) rfl rfl rfl
theorem zE.setField (h:zE w B xb x)(n:Nat):zE (w.setCell (.a xb 21) (.i n)) B xb { x with field:=n }:=h.vy 21 _ (fun _ _ _=>by simp[xf]) rfl rfl rfl
theorem zE.setHas (h:zE w B xb x)(b:Bool):zE (w.setCell (.a xb 22) (.bool b)) B xb { x with has:=b }:=h.vy 22 _ (fun _ _ _=>by simp[xf]) rfl rfl rfl
theorem zE.setX (h:zE w B xb x)(n:Nm):zE ((((w.setCell (.a xb 3) (.string n.text)).setCell (.a xb 4) (.i n.at_)).setCell (.a xb 5) (.bool n.num)).setCell (.a xb 6) (.i n.n)) B xb { x with x:=n } :=
 ((((h.vy (x':={ x with x:={ x.x with text:=n.text } }) 3 _ (fun _ _ _=>by simp[xf]) rfl rfl rfl).vy (x':={ x with x:={ x.x with text:=n.text,at_:=n.at_ } }) 4 _ (fun _ _ _=>by simp[xf]) rfl rfl rfl).vy (x':={ x with x:={ x.x with text:=n.text,at_:=n.at_,num:=n.num } }) 5 _ (fun _ _ _=>by simp[xf]) rfl rfl rfl).vy (x':={ x with x:=n }) 6 _ (fun _ _ _=>by simp[xf]) rfl rfl rfl)
theorem zE.vn (h:zE w B xb x)(n:Nm):zE ((((w.setCell (.a xb 7) (.string n.text)).setCell (.a xb 8) (.i n.at_)).setCell (.a xb 9) (.bool n.num)).setCell (.a xb 10) (.i n.n)) B xb { x with y:=n } :=
 ((((h.vy (x':={ x with y:={ x.y with text:=n.text } }) 7 _ (fun _ _ _=>by simp[xf]) rfl rfl rfl).vy (x':={ x with y:={ x.y with text:=n.text,at_:=n.at_ } }) 8 _ (fun _ _ _=>by simp[xf]) rfl rfl rfl).vy (x':={ x with y:={ x.y with text:=n.text,at_:=n.at_,num:=n.num } }) 9 _ (fun _ _ _=>by simp[xf]) rfl rfl rfl).vy (x':={ x with y:=n }) 10 _ (fun _ _ _=>by simp[xf]) rfl rfl rfl)
theorem zE.setZ (h:zE w B xb x)(n:Nm):zE ((((w.setCell (.a xb 11) (.string n.text)).setCell (.a xb 12) (.i n.at_)).setCell (.a xb 13) (.bool n.num)).setCell (.a xb 14) (.i n.n)) B xb { x with z:=n } :=
 ((((h.vy (x':={ x with z:={ x.z with text:=n.text } }) 11 _ (fun _ _ _=>by simp[xf]) rfl rfl rfl).vy (x':={ x with z:={ x.z with text:=n.text,at_:=n.at_ } }) 12 _ (fun _ _ _=>by simp[xf]) rfl rfl rfl).vy (x':={ x with z:={ x.z with text:=n.text,at_:=n.at_,num:=n.num } }) 13 _ (fun _ _ _=>by simp[xf]) rfl rfl rfl).vy (x':={ x with z:=n }) 14 _ (fun _ _ _=>by simp[xf]) rfl rfl rfl)
theorem zE.setF (h:zE w B xb x)(n:Nm):zE ((((w.setCell (.a xb 15) (.string n.text)).setCell (.a xb 16) (.i n.at_)).setCell (.a xb 17) (.bool n.num)).setCell (.a xb 18) (.i n.n)) B xb { x with f:=n } :=
 ((((h.vy (x':={ x with f:={ x.f with text:=n.text } }) 15 _ (fun _ _ _=>by simp[xf]) rfl rfl rfl).vy (x':={ x with f:={ x.f with text:=n.text,at_:=n.at_ } }) 16 _ (fun _ _ _=>by simp[xf]) rfl rfl rfl).vy (x':={ x with f:={ x.f with text:=n.text,at_:=n.at_,num:=n.num } }) 17 _ (fun _ _ _=>by simp[xf]) rfl rfl rfl).vy (x':={ x with f:=n }) 18 _ (fun _ _ _=>by simp[xf]) rfl rfl rfl)
theorem zE.setArgs (h:zE w B xb x){l:List Nm}(hl:xp w B v l):zE (w.setCell (.a xb 19) v) B xb { x with args:=l }:=by
 obtain⟨av,bv,ev,A,h1,h2,h3⟩:=h;exact⟨v,bv,ev,(A.qe 19 v).cast (by simp[xf]),zL hl A yd _ _,zL h2 A yd _ _,zL h3 A yd _ _⟩
theorem zE.setBody (h:zE w B xb x)(hl:zz w B v l):zE (w.setCell (.a xb 23) v) B xb { x with body:=l }:=by
 obtain⟨av,bv,ev,A,h1,h2,h3⟩:=h;exact⟨av,v,ev,(A.qe 23 v).cast (by simp[xf]),zL h1 A yd _ _,zL hl A yd _ _,zL h3 A yd _ _⟩
theorem zE.setEls (h:zE w B xb x)(hl:zz w B v l):zE (w.setCell (.a xb 24) v) B xb { x with els:=l }:=by
 obtain⟨av,bv,ev,A,h1,h2,h3⟩:=h;exact⟨av,bv,v,(A.qe 24 v).cast (by simp[xf]),zL h1 A yd _ _,zL h2 A yd _ _,zL hl A yd _ _⟩
theorem zE.alloc (h:zE w B xb x)(o:Obj):zE (w.alloc o) B xb x:=by
 obtain⟨av,bv,ev,A,h1,h2,h3⟩:=h;exact⟨av,bv,ev,A.alloc o,h1.alloc o,h2.alloc o,h3.alloc o⟩
theorem zE.drewN (h:zE w B xb x)(n:Nat):zE (w.drewN n) B xb x:=h
end
theorem zE.scan {C:PC}{w w1:World}{s:Sc}{B xb:Nat}{x:Stm}(h:zE w B xb x)(E:Env C w s)(hc:Chg C.B [] [C.sb] w w1):zE w1 B xb x :=
 h.vh hc yy yy yy (fun g A=>⟨_,_,(yG.1 A) ▸ E.sc,by decide,by decide,by decide⟩)
theorem zK {P:Program}{f:FuncId}{args:Array Value}{w:World}{R:Ending->World->Prop}(X:World->Prop)(hx:X w)(h:∀ w1,X w1->Calls P f args w1 R):Calls P f args w R:=h w hx
structure SEnv (C:PC)(xb:Nat)(w0 w:World)(s:Sc)(x:Stm):Prop where
 e:Env C w s
 x:zE w C.rb xb x
 rbw:C.rb<=w.heap.size
 c:Chg C.B [] [C.sb,xb] w0 w
 bx:C.B<=xb
section
variable {C:PC} {xb:Nat} {w0 w w1:World} {s s1:Sc} {x:Stm}
theorem SEnv.ne (S:SEnv C xb w0 w s x):C.pb≠xb/\C.sb≠xb:=⟨S.x.ne S.e.p yd,S.x.ne S.e.sc yd⟩
theorem SEnv.scan (S:SEnv C xb w0 w s x)(E:Env C w1 s1)(hc:Chg C.B [] [C.sb] w w1):SEnv C xb w0 w1 s1 x :=
 ⟨E,S.x.scan S.e hc,ya S.rbw hc.size,S.c.trans (hc.mono yy yy),S.bx⟩
theorem SEnv.cells (S:SEnv C xb w0 w s x):(∀ i,w.cell? (.a C.pb i)=#[.p C.sb,.p C.tb][i]?)/\(∀ i,w.cell? (.a C.sb i)=#[.string C.t,.i s.at_,.i s.kind,.string s.tok.text,.i s.tok.at_,.bool s.tok.num,.i s.tok.n,.u s.sign.toNat][i]?)/\(∀ i,w.frozen? (.a xb i)=false):=by
 refine⟨S.e.p.cell,Blk.cell S.e.sc,?_⟩;obtain⟨_,h⟩:=S.x.blk;exact h.frozen
theorem SEnv.qy (S:SEnv C xb w0 w s x):C.pb<w.heap.size/\C.sb<w.heap.size/\xb<w.heap.size:=⟨S.e.p.lt,Blk.lt S.e.sc,S.x.lt⟩
theorem SEnv.store (S:SEnv C xb w0 w s x){x':Stm}(i:Nat)(u:Value)(h:zE (w.setCell (.a xb i) u) C.rb xb x'):SEnv C xb w0 (w.setCell (.a xb i) u) s x' :=
 ⟨S.e.qi S.ne.1 S.ne.2 u,h,by simpa using S.rbw,S.c.setX S.bx yy u,S.bx⟩
theorem SEnv.qx (S:SEnv C xb w0 w s x)(n:Nat):SEnv C xb w0 (w.setCell (.a xb 0) (.i n)) s { x with op:=n }:=S.store _ _ (S.x.qx n)
theorem SEnv.setMark (S:SEnv C xb w0 w s x)(n:Nat):SEnv C xb w0 (w.setCell (.a xb 2) (.i n)) s { x with mark:=n }:=S.store _ _ (S.x.setMark n)
theorem SEnv.setBin (S:SEnv C xb w0 w s x)(n:Nat):SEnv C xb w0 (w.setCell (.a xb 20) (.i n)) s { x with bin:=n }:=S.store _ _ (S.x.setBin n)
theorem SEnv.setField (S:SEnv C xb w0 w s x)(n:Nat):SEnv C xb w0 (w.setCell (.a xb 21) (.i n)) s { x with field:=n }:=S.store _ _ (S.x.setField n)
theorem SEnv.setHas (S:SEnv C xb w0 w s x)(b:Bool):SEnv C xb w0 (w.setCell (.a xb 22) (.bool b)) s { x with has:=b }:=S.store _ _ (S.x.setHas b)
theorem SEnv.setArgs (S:SEnv C xb w0 w s x){l:List Nm}(hl:xp w C.rb v l):SEnv C xb w0 (w.setCell (.a xb 19) v) s { x with args:=l }:=S.store _ _ (S.x.setArgs hl)
theorem SEnv.far4 (S:SEnv C xb w0 w s x){x':Stm}{i j l:Nat}{a b c d:Value}(h:zE ((((w.setCell (.a xb i) a).setCell (.a xb j) b).setCell (.a xb k) c).setCell (.a xb l) d) C.rb xb x') :
  SEnv C xb w0 ((((w.setCell (.a xb i) a).setCell (.a xb j) b).setCell (.a xb k) c).setCell (.a xb l) d) s x' :=
 ⟨(((S.e.qi S.ne.1 S.ne.2 _).qi S.ne.1 S.ne.2 _).qi S.ne.1 S.ne.2 _).qi S.ne.1 S.ne.2 _,h,by simpa using S.rbw,(((S.c.setX S.bx yy _).setX S.bx yy _).setX S.bx yy _).setX S.bx yy _,S.bx⟩
theorem SEnv.setX (S:SEnv C xb w0 w s x)(n:Nm):SEnv C xb w0 ((((w.setCell (.a xb 3) (.string n.text)).setCell (.a xb 4) (.i n.at_)).setCell (.a xb 5) (.bool n.num)).setCell (.a xb 6) (.i n.n)) s { x with x:=n }:=S.far4 (S.x.setX n)
theorem SEnv.vn (S:SEnv C xb w0 w s x)(n:Nm):SEnv C xb w0 ((((w.setCell (.a xb 7) (.string n.text)).setCell (.a xb 8) (.i n.at_)).setCell (.a xb 9) (.bool n.num)).setCell (.a xb 10) (.i n.n)) s { x with y:=n }:=S.far4 (S.x.vn n)
theorem SEnv.setZ (S:SEnv C xb w0 w s x)(n:Nm):SEnv C xb w0 ((((w.setCell (.a xb 11) (.string n.text)).setCell (.a xb 12) (.i n.at_)).setCell (.a xb 13) (.bool n.num)).setCell (.a xb 14) (.i n.n)) s { x with z:=n }:=S.far4 (S.x.setZ n)
theorem SEnv.setF (S:SEnv C xb w0 w s x)(n:Nm):SEnv C xb w0 ((((w.setCell (.a xb 15) (.string n.text)).setCell (.a xb 16) (.i n.at_)).setCell (.a xb 17) (.bool n.num)).setCell (.a xb 18) (.i n.n)) s { x with f:=n }:=S.far4 (S.x.setF n)
end
theorem SEnv.fault {C:PC}{xb:Nat}{w0 w w1:World}{s:Sc}{x:Stm}(S:SEnv C xb w0 w s x){α: Type}{M:Except Flt α}{K:α -> Value->World->Prop}{f:Flt}{b:Nat}(hM:M=.error f)(hfb:zf w1 b f)(hle:w.heap.size<=b)(hc:Chg C.B [] [C.sb] w w1) :
  Post C.B [] [C.sb,xb] w0 M K (.panicked (zd6 b)) w1 :=
 .inr ⟨f,b,hM,rfl,hfb,ya S.c.size hle,S.c.trans (hc.mono yy yy)⟩
end
end Go.Proofs.YtkmcihhndgdhpaaGreat
