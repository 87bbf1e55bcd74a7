/- LowU LowV LowW LowX LowY LowZ: parts of the walk. -/
import Derived.Test.YtkmcihhndgdhpaaGreatWA7
import Derived.Test.YtkmcihhndgdhpaaGreatWC6
set_option maxRecDepth 100000
set_option maxHeartbeats 4000000
set_option linter.unusedSimpArgs false
set_option linter.unusedVariables false
namespace Go.Proofs.YtkmcihhndgdhpaaGreat
section
open Go.RowKit Go.Maps
attribute [local go_sem] dclV zar
def zqb (C:LC)(w:World)(s:Lo)(V:LV)(M:Except Flt Unit):Ending→World→Prop:=zci C w M fun _ v w'=>v=.tuple #[]∧LE C w' s V
def zmb (C:LC)(w:World)(s:Lo)(V:LV)(M:Except Flt Unit)(l:List Nm)(mb:Nat)(g:Nat)(iv:Value)(W:World):Prop :=
 ∃ (i:Nat) (seen:NMap),iv=.int .i64 i∧g=l.length-i∧i≤l.length∧LE C W s V∧NM W mb seen∧(∀ p ∈ seen,p.2=1)∧Below C.B w W∧M=zgf s (l.drop i) i seen
theorem LE.grownFar {C:LC}{w w1:World}{s:Lo}{V:LV}{mb:Nat}(h:LE C w s V)(hg:w.grownBy w1 (some mb))(hu:¬ Uses C V mb):LE C w1 s V :=
 h.same (h.bel.grown hg h.bel.size (fun k e=>by cases e;exact Nat.le_of_not_lt fun hlt=>hu (.inl hlt))) fun k hk _=>hg.block k (h.lt hk) (by rintro e;injection e with e;exact hu (e ▸ hk))
theorem seen_one {m:NMap}{x:ByteArray}(h:∀ p ∈ m,p.2=1):∀ v,mget m x=some v→v=1:=fun _ hv=>h _ (zfi hv)
theorem nlook0 {w:World}{b:Nat}{m:NMap}(h:NM w b m){x:ByteArray}(hx:nok x) :
  (Instr.lookup 212 (.map (some b)) (.string x) false).run Tryz.prog w=.ok (match mget m x with | some u=>.int .i64 u | none=>.int .i64 0) w:=by
 have:=h.lookup (t:=212) (e:=3) nkey Tryz.underlying212 (z:=.int .i64 0) (Tryz.zeroValue3 w) hx false
 rw[this]
 cases mget m x <;> rfl
theorem zto (C:LC)(w:World)(s:Lo)(V:LV)(d:Dcl)(pv bv:Value)(h:LE C w s V)(hp:zbs C.w0 C.B0 pv d.params)(hx:(∀ a ∈ d.params,okNm a)∧d.params.length≤701) :
  Calls Tryz.prog 112 #[.pointer (some ⟨C.lb,0,none⟩),dclV d pv bv] w (zqb C w s V (zgf s d.params 0 [])):=by
 obtain⟨pa,pc,rfl⟩:=zat hp
 obtain⟨M0,hM0⟩:∃ M,M=zgf s d.params 0 []:=⟨_,rfl⟩
 rw[← hM0]
 have hu:¬ Uses C V (w.heap.size+1):=h.fresh (Nat.le_succ _)
 have HU:=zH hu
 have START:=zH (show ∀ W,W=(w.alloc (.cells (zar d (.slice pa d.params.length pc) bv).toArray 223)).alloc (.map #[] 0)→zmb C w s V M0 d.params (w.heap.size+1) d.params.length (.int .i64 (0:Int)) W from fun W e=>by
  subst e
  refine⟨0,[],rfl,rfl,Nat.zero_le _,(h.alloc _).alloc _,?_,by simp,(((Below.refl C.B w).alloc h.bel.size _).alloc (Nat.le_trans h.bel.size (by simp)) _),by rw[hM0];rfl⟩
  have:=zaf.made (w.alloc (.cells (zar d (.slice pa d.params.length pc) bv).toArray 223)) nenc nok ienc
  simpa using this)
 have H:=zH h
 have HP:=zH hp
 have HX:=zH hx
 have hlen:d.params.length≤701:=hx.2
 have hmm:=@run_makeMap Tryz.prog
 clear h hp hx hM0 hu
 go_enter Tryz.func112,Tryz.ntmps112
 go_wp2_with fail
 clear hmm
 have ST:=zH (START.out _ rfl)
 clear START
 go_loopg [11] d.params.length (fun g v11 wr=>zmb C w s V M0 d.params (w.heap.size+1) g v11 wr)
 case atStart=>exact ST.out
 case round =>
  obtain⟨i,seen,rfl,hg,hi,hL,hm,hs1,hB,hM⟩:=hrel
  have HG:=zH hg
  have HL:=zH hL
  have HM:=zH hm
  have HS:=zH hs1
  have HB:=zH hB
  have MD:=zH hM
  clear hg hL hm hs1 hB hM
  by_cases hlt:i<d.params.length
  ·obtain⟨n,hn⟩:∃ n,d.params[i]? = some n:=⟨_,List.getElem?_eq_getElem hlt⟩
   obtain⟨ng,ncap,hnv,hnb,hnl⟩:=HP.out.form (by omega)
   injection hnv with hnv1 hnv2 hnv3
   subst hnv1
   have hq:∀ j,j<4→wr.cell? ⟨ng,i*4+j,none⟩=(zdx n)[j]? := fun j hj=>by rw[HL.out.bel.cell (p:=⟨ng,_,none⟩) hnl,HP.out.cellAt (i*4+j) (by omega),znp hn j hj]
   have q0:wr.cell? ⟨ng,i*4,none⟩=some (.string n.text):=hq 0 (by omega)
   have q1:wr.cell? ⟨ng,i*4+1,none⟩=some (.int .i64 n.at_):=hq 1 (by omega)
   have q2:wr.cell? ⟨ng,i*4+2,none⟩=some (.bool n.num):=hq 2 (by omega)
   have q3:wr.cell? ⟨ng,i*4+3,none⟩=some (.int .i64 n.n):=hq 3 (by omega)
   have HN:=zH (zal (HX.out.1 n (List.mem_of_getElem? hn)))
   have MD1:=zH (show M0=(if s.known n.text||(mget seen n.text).isSome then .error ⟨7,n.at_⟩else if i=3 then .error ⟨8,n.at_⟩else zgf s (d.params.drop (i+1)) (i+1) (mput seen n.text 1)) by rw[MD.out,zcc hn,zgf])
   clear hq hn hnv2 hnv3 hnb hnl
   go_wp2_with fail
   refine zag (fun W=>LE C W s V∧NM W (w.heap.size+1) seen∧Below C.B w W∧Blk W wr.heap.size 220 #[.string n.text,.int .i64 n.at_,.bool n.num,.int .i64 n.n]) ⟨HL.out.alloc _,HM.out.alloc _,HB.out.alloc (Nat.le_trans HL.out.bel.size (Nat.le_refl _)) _,Blk.newAt rfl⟩ ?_
   rintro w1 ⟨hL1,hm1,hB1,hb1⟩
   refine(zfs C w1 s V n.text hL1 HN.out).mono ?_
   rintro e w2 ⟨rfl,hL2,hC2⟩
   have hm2:=hm1.chg hC2 (by simp)
   have hb2:=hb1.chg hC2 (by simp) (by simp)
   have HL2:=zH hL2
   have HM2:=zH hm2
   have HB2:=zH (hB1.trans ((Chg.any (B:=C.B) (bs:=[]) hC2).below hL1.bel.size))
   have hbc:=hb2.cell
   have hbl:=hb2.lt
   have hlk:=nlook0 hm2 HN.out
   have HW2:=zH (show w.heap.size≤w2.heap.size from HB2.out.size)
   clear hL1 hm1 hB1 hb1 hL2 hC2 hm2 hb2 q0 q1 q2 q3
   by_cases hk:s.known n.text=true
   ·have HK:=zH hk
    have MD2:=zH (show M0=.error ⟨7,n.at_⟩ by rw[MD1.out,if_pos (by rw[hk];rfl)])
    rw[hk]
    clear hk hlk
    go_wp2_with fail
    refine(zdj _ _ _).mono ?_
    rintro e w4 ⟨rfl,rfl⟩
    exact⟨rfl,.fault MD2.out (za1.new rfl) HW2.out (HB2.out.alloc HL2.out.bel.size _)⟩
   ·have hk0:s.known n.text=false:=by simpa using hk
    rw[hk0]
    have HK:=zH hk0
    clear hk hk0
    cases hgt:mget seen n.text with
    | some u =>
     have hu1:=seen_one HS.out u hgt
     subst hu1
     rw[hgt]at hlk
     simp only at hlk
     have MD2:=zH (show M0=.error ⟨7,n.at_⟩ by rw[MD1.out,if_pos (by rw[hgt];simp)])
     clear hgt
     go_wp2_with fail
     refine(zdj _ _ _).mono ?_
     rintro e w4 ⟨rfl,rfl⟩
     exact⟨rfl,.fault MD2.out (za1.new rfl) HW2.out (HB2.out.alloc HL2.out.bel.size _)⟩
    | none =>
     rw[hgt]at hlk
     simp only at hlk
     have MD2:=zH (show M0=(if i=3 then .error ⟨8,n.at_⟩else zgf s (d.params.drop (i+1)) (i+1) (mput seen n.text 1)) by rw[MD1.out,if_neg (by rw[hgt,HK.out];simp)])
     clear hgt MD1
     by_cases h3:i=3
     ·have h3':((i:Int)==3)=true:=by rw[h3];rfl
      have MD3:=zH (MD2.out.trans (if_pos h3))
      clear h3
      go_wp2_with fail
      refine(zdj _ _ _).mono ?_
      rintro e w4 ⟨rfl,rfl⟩
      exact⟨rfl,.fault MD3.out (za1.new rfl) HW2.out (HB2.out.alloc HL2.out.bel.size _)⟩
     ·have h3':((i:Int)==3)=false:=zai (by omega)
      have MD3:=zH (MD2.out.trans (if_neg h3))
      obtain⟨w3,hrun0,hm3,hg3,hz3⟩:=HM2.out.update (t:=212) (e:=3) nkey Tryz.underlying212 HN.out 1
      have hrun:(Instr.mapUpdate 212 (.map (some (w.heap.size+1))) (.string n.text) (.int .i64 1)).run Tryz.prog w2=.ok () w3:=hrun0
      clear hrun0
      have ST2:=zH (show zmb C w s V M0 d.params (w.heap.size+1) (d.params.length-(i+1)) (.int .i64 ((i+1:Nat):Int)) w3 from
       ⟨i+1,mput seen n.text 1,rfl,rfl,hlt,HL2.out.grownFar hg3 HU.out,hm3,fun p hp=>by rcases zg6 hp with rfl | hp;exact rfl;exact HS.out p hp,HB2.out.grown hg3 HL2.out.bel.size (fun k e=>by cases e;exact Nat.le_of_not_lt fun hlt=>HU.out (.inl hlt)),MD3.out⟩)
      clear h3 hm3 hg3 hz3
      go_wp2_with fail
      go_roundg (d.params.length-(i+1))
      case measure=>have:=HG.out;omega
      case rel=>rw[show((i:Int)+1)=((i+1:Nat):Int) by omega];exact ST2.out
  ·have FIN:=zH (show zqb C w s V M0 (.returned (.tuple #[])) wr from .inl ⟨(),_,by rw[MD.out,List.drop_eq_nil_of_le (by omega),zgf],rfl,rfl,HL.out⟩)
   go_wp2_with fail
   first | go_end0 | refine bodyPost_ret (results_none rfl _ _ _) rfl ?_
   exact FIN.out
end
section
open Go.RowKit Go.Maps
theorem znq {α : Type}(l:List α)(k:Nat)(f:α → α):(l.modify k f).length=l.length:=List.length_modify _ _ _
theorem zso:∀ (l:List Fu) (c j:Nat) (u:Fu→Fu) (v:Value),j<5→(∀ f,zcb (u f)=(zcb f).set j v)→c<l.length→(l.flatMap zcb).set (c*5+j) v=(l.modify c u).flatMap zcb
 | [],c,j,u,v,_,_,hc=>by simp at hc
 | f::r,0,j,u,v,hj,hu,_=>by
  rw[List.flatMap_cons,List.modify_zero_cons,List.flatMap_cons,List.set_append_left _ _ (by simp[zcb];omega),hu]
  simp
 | f::r,c+1,j,u,v,hj,hu,hc=>by
  have hl:(zcb f).length=5:=rfl
  rw[List.flatMap_cons,List.modify_succ_cons,List.flatMap_cons,List.set_append_right _ _ (by rw[hl];omega),hl,show(c+1)*5+j-5=c*5+j by omega,zso r c j u v hj hu (by simpa using hc)]
section
variable {C:LC} {w:World} {s:Lo} {V:LV}
theorem LE.setF {fg cap c j:Nat}(h:LE C w s V)(hfv:V.fsv=.slice (some ⟨fg,0,none⟩) s.fs.length cap)(hc:c<s.fs.length)(u:Fu→Fu)(v:Value)(hu:∀ f,zcb (u f)=(zcb f).set j v)(hj:j<5) :
  LE C (w.setCell ⟨fg,c*5+j,none⟩ v) { s with fs:=s.fs.modify c u } V:=by
 have hfr:=h.fr
 rw[hfv]at hfr
 obtain⟨cs,hg⟩:=zba hfr (k:=fg) rfl
 have hB:C.B≤fg:=(hfr.lt fg rfl).1
 have hne:∀ {j:Nat} {t:TypeId} {cs':Array Value},Blk w j t cs'→t≠228→j≠fg:=fun hj ht=>hj.ne_ hg ht
 have hrow:∀ {B e size n':Nat} {v':Value} {ys:List Value},w.ownsRow B e size v' n' ys→e≠228→(w.setCell ⟨fg,c*5+j,none⟩ v).ownsRow B e size v' n' ys:=fun hr he=>zaj hr hg he _ _
 have hmap:∀ {b:Nat} {m:NMap},NM w b m→NM (w.setCell ⟨fg,c*5+j,none⟩ v) b m:=fun hm=>hm.far (hm.cellFar hg) _
 refine⟨h.c,h.bel.setCell hB _,h.l.far (hne h.l (by decide)) _,h.p.far (hne h.p (by decide)) _,hmap h.vm,hmap h.mm,hmap h.fm,fun b hb=>⟨hmap (h.lm b hb).1,(h.lm b hb).2⟩,?_,hrow h.cr (by decide),h.asl,fun j a i ha hi=>hrow (h.ar j a i ha hi) (by decide),hrow h.atr (by decide),hrow h.nr (by decide),hrow h.gr (by decide),h.s1,h.s2,h.s3,
  ⟨by rw[List.length_modify];exact h.i.fl,h.i.f5,h.i.al,h.i.nl,h.i.gl,by rw[List.length_modify];exact h.i.fok⟩⟩
 show World.ownsRow _ C.B _ 5 V.fsv (s.fs.modify c u).length ((s.fs.modify c u).flatMap zcb)
 rw[List.length_modify,← zso s.fs c j u v hj hu hc,hfv]
 exact(hfr.stored (c*5+j) _).1
theorem LE.setFn (h:LE C w s V)(n:Nat):LE C (w.setCell ⟨C.lb,6,none⟩ (.int .i64 (n:Int))) { s with fn:=n } V:=by
 have hm:∀ {g:Nat} {m:NMap},NM w g m→NM (w.setCell ⟨C.lb,6,none⟩ (.int .i64 (n:Int))) g m:=fun hm=>hm.far (hm.cellFar h.l) _
 have hr:∀ {B e size n':Nat} {v:Value} {ys:List Value},w.ownsRow B e size v n' ys→e≠214→(w.setCell ⟨C.lb,6,none⟩ (.int .i64 (n:Int))).ownsRow B e size v n' ys:=fun hr he=>zaj hr h.l he _ _
 exact⟨h.c,h.bel.setCell h.c.lb _,(h.l.set_ 6 _).cast (by simp),h.p.far (h.p.ne_ h.l (by decide)) _,hm h.vm,hm h.mm,hm h.fm,fun b hb=>⟨hm (h.lm b hb).1,(h.lm b hb).2⟩,hr h.fr (by decide),hr h.cr (by decide),h.asl,fun j a i ha hi=>hr (h.ar j a i ha hi) (by decide),hr h.atr (by decide),hr h.nr (by decide),hr h.gr (by decide),h.s1,h.s2,h.s3,
  ⟨h.i.fl,h.i.f5,h.i.al,h.i.nl,h.i.gl,h.i.fok⟩⟩
theorem LE.newLocs (h:LE C w s V):LE C ((w.alloc (.map #[] 0)).setCell ⟨C.lb,5,none⟩ (.map (some w.heap.size))) { s with locs:=[] } { V with lm:=some w.heap.size }:=by
 have h1:=h.alloc (.map #[] 0)
 have hm:∀ {g:Nat} {m:NMap},NM w g m→NM ((w.alloc (.map #[] 0)).setCell ⟨C.lb,5,none⟩ (.map (some w.heap.size))) g m:=fun hm=>(hm.alloc _).far (hm.cellFar h.l) _
 have hr:∀ {B e size n':Nat} {v:Value} {ys:List Value},w.ownsRow B e size v n' ys→e≠214→((w.alloc (.map #[] 0)).setCell ⟨C.lb,5,none⟩ (.map (some w.heap.size))).ownsRow B e size v n' ys:=fun hr he=>zaj (hr.alloc _) h1.l he _ _
 have hf:∀ {k:Nat},Uses C V k→w.heap.size≠k:=fun hu e=>by have:=h.lt hu;omega
 have hz:=h.bel.size
 refine⟨h.c,(h.bel.alloc h.bel.size _).setCell h.c.lb _,(h1.l.set_ 5 _).cast (by simp),h1.p.far (h1.p.ne_ h1.l (by decide)) _,hm h.vm,hm h.mm,hm h.fm,?_,hr h.fr (by decide),hr h.cr (by decide),h.asl,fun j a i ha hi=>hr (h.ar j a i ha hi) (by decide),hr h.atr (by decide),hr h.nr (by decide),hr h.gr (by decide),h.s1,h.s2,h.s3,
  ⟨h.i.fl,h.i.f5,h.i.al,h.i.nl,h.i.gl,h.i.fok⟩⟩
 intro b hb
 injection hb with hb
 subst hb
 refine⟨(zaf.made w nenc nok ienc).far (hf (.inr (.inl rfl))) _,hz,hf (.inr (.inr (.inr (.inl rfl)))),hf (.inr (.inr (.inr (.inr (.inl rfl))))),hf (.inr (.inr (.inr (.inr (.inr (.inl rfl))))))⟩
theorem LE.fstore {c j:Nat}(h:LE C w s V)(hc:c<s.fs.length)(h2:2≤j)(hj:j<5):∃ (fg fcap:Nat) (ca:Option Addr) (cc:Nat) (x:Int),
  (∀ i,w.cell? ⟨C.lb,i,none⟩=#[.pointer (some ⟨C.pb,0,none⟩),.pointer (some ⟨C.tb,0,none⟩),.map (some C.vb),.map (some C.mb),.map (some C.fb),.map V.lm,.int .i64 s.fn][i]?) ∧
  (∀ i,w.cell? ⟨C.pb,i,none⟩=#[.pointer (some ⟨C.tb,0,none⟩),.int .i64 s.nv,.int .i64 s.nm,.slice (some ⟨fg,0,none⟩) s.fs.length fcap,.slice ca s.code.length cc,V.av,V.nv,V.gv,.int .i64 0][i]?) ∧
  (∀ i,w.frozen? ⟨C.lb,i,none⟩=false)∧(∀ i,w.frozen? ⟨C.pb,i,none⟩=false)∧C.lb<w.heap.size∧C.pb<w.heap.size∧C.lb≠C.pb ∧
  w.cell? ⟨fg,c*5+j,none⟩=some (.int .i64 x)∧w.frozen? ⟨fg,c*5+j,none⟩=false∧C.lb≠fg∧C.pb≠fg∧fg<w.heap.size∧c<s.fs.length∧s.fs.length≤5∧C.B≤fg ∧
  (∃ cs,Blk w fg 228 cs) ∧
  (∀ (u:Fu→Fu) (v:Value),(∀ f,zcb (u f)=(zcb f).set j v)→LE C (w.setCell ⟨fg,c*5+j,none⟩ v) { s with fs:=s.fs.modify c u } V):=by
 obtain⟨hl,hp,hfl,hfp,hll,hlp,hne⟩:=h.cells
 obtain⟨fg,fcap,hfv,hfb,hfg⟩:=h.fr.form (Nat.lt_of_le_of_lt (Nat.zero_le _) hc)
 obtain⟨ca,cc,hcv⟩:=zat h.cr
 rw[hfv,hcv]at hp
 have hfr:=h.fr
 rw[hfv]at hfr
 obtain⟨cs,hfo⟩:=zba hfr (k:=fg) rfl
 have hf:s.fs[c]? = some s.fs[c]:=List.getElem?_eq_getElem hc
 have hcell:∃ x:Int,w.cell? ⟨fg,c*5+j,none⟩=some (.int .i64 x):=by
  rw[hfr.cellAt (c*5+j) (by omega),zj1 hf j hj]
  obtain rfl | rfl | rfl:j=2∨j=3∨j=4:=by omega
  ·exact⟨_,rfl⟩
  ·exact⟨_,rfl⟩
  ·exact⟨_,rfl⟩
 obtain⟨x,hx⟩:=hcell
 exact⟨fg,fcap,ca,cc,x,hl,hp,hfl,hfp,hll,hlp,hne,hx,hfr.frozenAt _,h.l.ne_ hfo (by decide),h.p.ne_ hfo (by decide),hfg,hc,by rw[h.i.fl];exact h.i.f5,hfb,⟨cs,hfo⟩,fun u v hu=>h.setF hfv hc u v hu hj⟩
end
structure zbf (s s':Lo):Prop where
 vars:s'.vars=s.vars
 muts:s'.muts=s.muts
 funs:s'.funs=s.funs
 fs:s'.fs=s.fs
 fn:s'.fn=s.fn
 nv:s'.nv=s.nv
 nm:s'.nm=s.nm
section
variable {s s1 s2:Lo}
theorem zbf.refl (s:Lo):zbf s s:=⟨rfl,rfl,rfl,rfl,rfl,rfl,rfl⟩
theorem zbf.trans (h:zbf s s1)(k:zbf s1 s2):zbf s s2:=⟨k.vars.trans h.vars,k.muts.trans h.muts,k.funs.trans h.funs,k.fs.trans h.fs,k.fn.trans h.fn,k.nv.trans h.nv,k.nm.trans h.nm⟩
theorem zbf.emit (h:zbf s s1)(x:In):zbf s (s1.emit x):=⟨h.vars,h.muts,h.funs,h.fs,h.fn,h.nv,h.nm⟩
theorem zbf.patch (h:zbf s s1)(k:Nat):zbf s (s1.patch k):=⟨h.vars,h.muts,h.funs,h.fs,h.fn,h.nv,h.nm⟩
theorem zbf.note (s:Lo)(p a:Nat):zbf s (s.note p a):=⟨rfl,rfl,rfl,rfl,rfl,rfl,rfl⟩
theorem zjl {n:Nm}{p:Nat×Lo}(h:zbq s n=.ok p):zbf s p.2:=by rw[zgl h];exact⟨rfl,rfl,rfl,rfl,rfl,rfl,rfl⟩
theorem zgc {n:Nm}{p:Ar×Lo}(h:argM s n=.ok p):zbf s p.2:=by rw[zfk h];exact⟨rfl,rfl,rfl,rfl,rfl,rfl,rfl⟩
theorem zrh:∀ (l:List Nm) {s:Lo} {p:List Ar×Lo},zcz s l=.ok p→zbf s p.2
 | [],s,p,h=>by rw[zcz]at h;injection h with h;subst h;exact .refl _
 | n::r,s,p,h=>by
  rw[zcz]at h
  obtain⟨q,h1,h2⟩:=zac h
  obtain⟨u,h3,h4⟩:=zac h2
  injection h4 with h4;subst h4
  exact(zgc h1).trans (show zbf q.2 u.2 from zrh r h3)
theorem zpw {t:Stm}{x:In}{p:In×Lo}(h:zc2 s t x=.ok p):zbf s p.2:=by
 unfold zc2 at h
 split at h
 ·cases h
 ·split at h
  ·obtain⟨q,h1,h2⟩:=zac h
   injection h2 with h2;subst h2
   exact zrh _ h1
  ·cases h
theorem zom {t:Stm}{x:In}{p:In×Lo}(h:zbv s t x=.ok p):zbf s p.2:=by
 unfold zbv at h
 split at h
 ·split at h
  ·cases h
  ·injection h with h;subst h;exact⟨rfl,rfl,rfl,rfl,rfl,rfl,rfl⟩
 ·split at h
  ·split at h
   ·cases h
   ·have:=zpw h
    exact⟨this.vars,this.muts,this.funs,this.fs,this.fn,this.nv,this.nm⟩
  ·split at h
   ·exact zpw h
   ·obtain⟨q,h1,h2⟩:=zac h
    injection h2 with h2;subst h2
    exact zgc h1
theorem zw2 {t:Stm}{x:In}(h:setM s t x=.ok s1):zbf s s1:=by
 unfold setM at h
 split at h
 ·split at h
  ·obtain⟨q,h1,h2⟩:=zac h
   injection h2 with h2;subst h2
   exact(zgc h1).emit _
  ·cases h
 ·obtain⟨q,h1,h2⟩:=zac h
  split at h2
  ·injection h2 with h2;subst h2
   exact(zjl h1).emit _
  ·obtain⟨r,h3,h4⟩:=zac h2
   split at h4
   ·injection h4 with h4;subst h4
    exact((zjl h1).trans (zgc h3)).emit _
   ·obtain⟨u,h5,h6⟩:=zac h4
    injection h6 with h6;subst h6
    exact(((zjl h1).trans (zgc h3)).trans (zgc h5)).emit _
theorem zwa {block:Lo→List Nat→Except Flt Lo}(hb:∀ s l s',block s l=.ok s'→zbf s s'){t:Stm}{x:In}(h:zdm block s t x=.ok s1):zbf s s1:=by
 unfold zdm at h
 obtain⟨p,h1,h2⟩:=zac h
 obtain⟨q,h3,h4⟩:=zac h2
 have k:=((zgc h1).emit { x with y:=p.1 }).trans (hb _ _ _ h3)
 split at h4
 ·injection h4 with h4;subst h4
  exact(k.emit _).patch _
 ·split at h4
  ·obtain⟨r,h5,h6⟩:=zac h4
   injection h6 with h6;subst h6
   exact(((k.emit _).patch _).trans (hb _ _ _ h5)).patch _
  ·injection h4 with h4;subst h4
   exact k.patch _
theorem zxd {t:Stm}{x:In}(h:zhz s t x=.ok s1):zbf s s1:=by
 unfold zhz at h
 split at h
 ·split at h
  ·injection h with h;subst h;exact(zbf.refl _).emit _
  ·cases h
 ·split at h
  ·obtain⟨p,h1,h2⟩:=zac h
   injection h2 with h2;subst h2
   exact(zgc h1).emit _
  ·split at h
   ·split at h
    ·obtain⟨p,h1,h2⟩:=zac h
     injection h2 with h2;subst h2
     exact(zgc h1).emit _
    ·injection h with h;subst h;exact(zbf.refl _).emit _
   ·split at h
    ·obtain⟨p,h1,h2⟩:=zac h
     obtain⟨q,h3,h4⟩:=zac h2
     injection h4 with h4;subst h4
     exact((zjl h1).trans (zgc h3)).emit _
    ·split at h
     ·obtain⟨p,h1,h2⟩:=zac h
      injection h2 with h2;subst h2
      exact(zom h1).emit _
     ·obtain⟨p,h1,h2⟩:=zac h
      obtain⟨q,h3,h4⟩:=zac h2
      injection h4 with h4;subst h4
      exact((zjl h1).trans (zom h3)).emit _
theorem zxb {block:Lo→List Nat→Except Flt Lo}(hb:∀ s l s',block s l=.ok s'→zbf s s'){t:Stm}{pl:Nat}(h:zdt block s t pl=.ok s1):zbf s s1:=by
 unfold zdt at h
 split at h
 ·cases h
 ·split at h
  ·exact(zbf.note _ _ _).trans (zw2 h)
  ·split at h
   ·exact(zbf.note _ _ _).trans (zwa hb h)
   ·exact(zbf.note _ _ _).trans (zxd h)
end
theorem zlk {xs:List Stm}:∀ (n:Nat) (s:Lo) (l:List Nat) (s':Lo),zax xs n s l=.ok s'→zbf s s'
 | 0,s,l,s',h=>by rw[zax]at h;cases h
 | n+1,s,[],s',h=>by rw[zax]at h;injection h with h;subst h;exact .refl _
 | n+1,s,k::r,s',h=>by
  rw[zax]at h
  split at h
  ·obtain⟨s2,h1,h2⟩:=zac h
   exact(zxb (zlk n) h1).trans (zlk n _ _ _ h2)
  ·cases h
end
section
open Go.RowKit Go.Maps
attribute [local go_sem] dclV zar insV zas
set_option linter.unusedSimpArgs false
def BodyPost (C:LC)(M:Except Flt Lo):Ending→World→Prop:=zmu C M fun s' v w'=>v=.tuple #[]∧∃ V',LE C w' s' V'
def zm6 (C:LC)(s:Lo)(V:LV)(d:Dcl)(pv bv:Value)(db:Nat)(g:Nat)(iv:Value)(W:World):Prop :=
 ∃ (i:Nat),iv=.int .i64 i∧g=d.params.length-i∧i≤d.params.length∧LE C W { s with locs:=ze0 (d.params.take i) } V∧Blk W db 223 (zar d pv bv).toArray
theorem zw0 {l:List Nm}{i:Nat}{n:Nm}(h:l[i]? = some n):ze0 (l.take (i+1))=mput (ze0 (l.take i)) n.text (ze0 (l.take i)).length:=by
 unfold ze0
 rw[List.take_add_one,h]
 simp[List.foldl_append]
def fuFrom (n:Nat)(f:Fu):Fu:=⟨f.name,f.params,f.locals,n,f.5⟩
def fuTo (n:Nat)(f:Fu):Fu:=⟨f.name,f.params,f.locals,f.from_,n⟩
def zog (n:Nat)(f:Fu):Fu:=⟨f.name,f.params,n,f.from_,f.5⟩
theorem end_eq (s:Lo)(c:Nat):s.end_ c={ ({ s with fs:=s.fs.modify c (fuTo s.code.length) }:Lo)with fs:=(s.fs.modify c (fuTo s.code.length)).modify c (zog s.locs.length) }:=by
 unfold Lo.end_
 rw[List.modify_modify_eq]
 rfl
theorem body_any (C:LC)(w:World)(s:Lo)(V:LV)(d:Dcl)(pv bv:Value)(c k m:Nat)(h:LE C w s V)(hp0:zbs C.w0 C.B0 pv d.params)(hb0:zbe C.w0 C.B0 bv d.body)(hx:(∀ a ∈ d.params,okNm a)∧d.params.length≤701)
  (hsp:za3 (fun j=>C.xs[j]?) d.body k m) (hm:m≤C.xs.length) (hc:c<s.fs.length) (hcl:s.code.length+2+3*(m-k)≤90000) :
  Calls Tryz.prog 113 #[.pointer (some ⟨C.lb,0,none⟩),dclV d pv bv,.int .i64 (c:Int)] w (BodyPost C (zi5 C.xs s d c)):=by
 obtain⟨pa,pc,rfl⟩:=zat hp0
 obtain⟨M0,hM0⟩:∃ M,M=zi5 C.xs s d c:=⟨_,rfl⟩
 rw[← hM0]
 have HM0:=zH hM0
 obtain⟨V0,hV0⟩:∃ V0:LV,V0={ V with lm:=some (w.heap.size+1) }:=⟨_,rfl⟩
 have LE0:=zH (show ∀ W,W=(((w.setCell ⟨C.lb,6,none⟩ (.int .i64 (c:Int))).setCell ⟨C.lb,5,none⟩ (.map (some (w.heap.size+1)))).alloc (.cells (zar d (.slice pa d.params.length pc) bv).toArray 223)).alloc (.map #[] 0) →
   LE C W { s with fn:=c,locs:=[] } V0∧Blk W w.heap.size 223 (zar d (.slice pa d.params.length pc) bv).toArray from fun W e=>by
  subst e
  rw[hV0]
  have h1:=(h.alloc (.cells (zar d (.slice pa d.params.length pc) bv).toArray 223)).setFn c
  have h2:=h1.newLocs
  have hz:((w.alloc (.cells (zar d (.slice pa d.params.length pc) bv).toArray 223)).setCell ⟨C.lb,6,none⟩ (.int .i64 (c:Int))).heap.size=w.heap.size+1:=by simp[World.setCell]
  rw[hz]at h2
  have hne:w.heap.size≠C.lb:=fun e=>by have:=h.l.lt;omega
  have hlt:=h.l.lt
  have h3:=(((Blk.new w 223 (zar d (.slice pa d.params.length pc) bv).toArray).far (p:=⟨C.lb,6,none⟩) hne (.int .i64 (c:Int))).alloc (.map #[] 0)).far (p:=⟨C.lb,5,none⟩) hne (.map (some (w.heap.size+1)))
  have e1:(((w.alloc (.cells (zar d (.slice pa d.params.length pc) bv).toArray 223)).setCell ⟨C.lb,6,none⟩ (.int .i64 (c:Int))).alloc (.map #[] 0)).setCell ⟨C.lb,5,none⟩ (.map (some (w.heap.size+1)))=(((w.setCell ⟨C.lb,6,none⟩ (.int .i64 (c:Int))).setCell ⟨C.lb,5,none⟩ (.map (some (w.heap.size+1)))).alloc (.cells (zar d (.slice pa d.params.length pc) bv).toArray 223)).alloc (.map #[] 0):=by
   rw[World.setCell_alloc_past _ _ _ _ hlt,World.setCell_alloc_past _ _ _ _ (by simp[World.setCell];omega),World.setCell_alloc_past _ _ _ _ (by simpa [World.setCell] using hlt)]
  rw[e1]at h2 h3
  exact⟨h2,h3⟩)
 have HV0:=zH hV0
 clear hV0
 have H:=zH h
 have HP:=zH hp0
 have HB:=zH hb0
 have HX:=zH hx
 have HSP:=zH hsp
 have hlen:d.params.length≤701:=hx.2
 have hll:C.lb<w.heap.size:=h.l.lt
 have hlf:=h.l.frozen
 have hlc:=h.l.cell
 have hmm:=@run_makeMap Tryz.prog
 have LN:=zH hcl
 have CN:=zH hc
 have MN:=zH hm
 clear h hp0 hb0 hx hM0 hsp hcl hc hm
 go_enter Tryz.func113,Tryz.ntmps113
 go_wp2_with fail
 clear hmm
 refine zbi (fun W=>LE C W { s with fn:=c,locs:=[] } V0∧Blk W w.heap.size 223 (zar d (.slice pa d.params.length pc) bv).toArray) (LE0.out _ rfl) ?_
 rintro w1 ⟨hL,hD⟩
 have ST:=zH (show zm6 C { s with fn:=c } V0 d (.slice pa d.params.length pc) bv w.heap.size d.params.length (.int .i64 (0:Int)) w1 from⟨0,rfl,rfl,Nat.zero_le _,hL,hD⟩)
 clear hL hD hll hlf hlc LE0
 go_loopg [19] d.params.length (fun g v19 wr=>zm6 C { s with fn:=c } V0 d (.slice pa d.params.length pc) bv w.heap.size g v19 wr)
 case atStart=>exact ST.out
 case round =>
  obtain⟨i,rfl,hg,hi,hL,hD⟩:=hrel
  have HG:=zH hg
  have HL:=zH hL
  have HD:=zH hD
  obtain⟨hl,hp,hfl,hfp,hll,hlp,_⟩:=hL.cells
  clear hg hL hD hp hfp
  by_cases hlt:i<d.params.length
  ·obtain⟨n,hn⟩:∃ n,d.params[i]? = some n:=⟨_,List.getElem?_eq_getElem hlt⟩
   obtain⟨ng,ncap,hnv,hnb,hnl⟩:=HP.out.form (by omega)
   injection hnv with hnv1 hnv2 hnv3
   subst hnv1
   have hq:∀ j,j<4→wr.cell? ⟨ng,i*4+j,none⟩=(zdx n)[j]? := fun j hj=>by rw[HL.out.bel.cell (p:=⟨ng,_,none⟩) hnl,HP.out.cellAt (i*4+j) (by omega),znp hn j hj]
   have q0:wr.cell? ⟨ng,i*4,none⟩=some (.string n.text):=hq 0 (by omega)
   have q1:wr.cell? ⟨ng,i*4+1,none⟩=some (.int .i64 n.at_):=hq 1 (by omega)
   have q2:wr.cell? ⟨ng,i*4+2,none⟩=some (.bool n.num):=hq 2 (by omega)
   have q3:wr.cell? ⟨ng,i*4+3,none⟩=some (.int .i64 n.n):=hq 3 (by omega)
   have HN:=zH (zal (HX.out.1 n (List.mem_of_getElem? hn)))
   have HPL:=zH (zw0 hn)
   clear hq hn hnv2 hnv3 hnb hnl
   go_upto_region 6 with fail
   refine zbi (fun W=>LE C W { s with fn:=c,locs:=ze0 (d.params.take i) } V0∧Blk W w.heap.size 223 (zar d (.slice (some ⟨ng,0,none⟩) d.params.length pc) bv).toArray∧Blk W wr.heap.size 220 #[.string n.text,.int .i64 n.at_,.bool n.num,.int .i64 n.n]) ⟨HL.out.alloc _,HD.out.alloc _,Blk.newAt rfl⟩ ?_
   rintro W ⟨hL,hD,hN⟩
   clear hl hfl hll hlp q0 q1 q2 q3
   obtain⟨hl,hp,hfl,hfp,hll,hlp,_⟩:=hL.cells
   have hmb:V0.lm=some (w.heap.size+1):=by rw[HV0.out]
   have hmm:=(hL.lm _ hmb).1
   rw[hmb]at hl
   have hnc:=hN.cell
   have hlen:(Builtin.len_ #[212] 3 #[.map (some (w.heap.size+1))]).run Tryz.prog W.drew=.ok (.int .i64 (ze0 (d.params.take i)).length) W.drew:=nlen hmm.drew
   obtain⟨w3,hrun0,hm3,hg3,hz3⟩:=(hmm.drew).update (t:=212) (e:=3) nkey Tryz.underlying212 HN.out (ze0 (d.params.take i)).length
   have hrun:(Instr.mapUpdate 212 (.map (some (w.heap.size+1))) (.string n.text) (.int .i64 ((ze0 (d.params.take i)).length:Int))).run Tryz.prog W.drew=.ok () w3:=hrun0
   have hL3:=hL.drew.locs hmb hm3 hg3
   rw[← HPL.out]at hL3
   have ST2:=zH (show zm6 C { s with fn:=c } V0 d (.slice (some ⟨ng,0,none⟩) d.params.length pc) bv w.heap.size (d.params.length-(i+1)) (.int .i64 ((i+1:Nat):Int)) w3 from
    ⟨i+1,rfl,rfl,hlt,hL3,hD.drew.grown hg3 (fun e=>hmm.cellFar hD (by injection e with e;exact e.symm))⟩)
   clear hrun0 hm3 hg3 hz3 hL3 hL hD hN hp hfl hfp hlp
   refine zh0 11 (fun w'=>w'.cell? ⟨C.lb,5,none⟩=some (.map (some (w.heap.size+1)))∧(∀ j,w'.cell? ⟨wr.heap.size,j,none⟩=#[.string n.text,.int .i64 n.at_,.bool n.num,.int .i64 n.n][j]?)∧(Builtin.len_ #[212] 3 #[.map (some (w.heap.size+1))]).run Tryz.prog w'=.ok (.int .i64 (ze0 (d.params.take i)).length) w') (by kernel_rfl) rfl rfl (by kernel_rfl) ?_
   simp only[List.take_succ_cons,List.take_zero]
   have hHeld:W.drew.cell? ⟨C.lb,5,none⟩=some (.map (some (w.heap.size+1)))∧(∀ j,W.drew.cell? ⟨wr.heap.size,j,none⟩=#[.string n.text,.int .i64 n.at_,.bool n.num,.int .i64 n.n][j]?)∧(Builtin.len_ #[212] 3 #[.map (some (w.heap.size+1))]).run Tryz.prog W.drew=.ok (.int .i64 (ze0 (d.params.take i)).length) W.drew:=⟨by simp[hl],hnc,hlen⟩
   iterate 11(refine tk 0 rfl (by kernel_rfl) (fun _ _ _ h=>h) hHeld (fun w hSw=>by go_simp;try with_reducible rfl) (by simp only[pA,pB,pC,pD,pE,pF,pG,pH];exact rfl) ?_)
   refine lst (by kernel_rfl) rfl fun K hK=>?_
   go_simp
   refine hK _ _ ?_
   clear hK K hHeld hrun hlen hnc hl hll
   go_wp2_with fail
   go_roundg (d.params.length-(i+1))
   case measure=>have:=HG.out;omega
   case rel=>rw[show((i:Int)+1)=((i+1:Nat):Int) by omega];exact ST2.out
  ·obtain rfl:i=d.params.length:=by omega
   have hLE:LE C wr { s with fn:=c,locs:=ze0 d.params } V0:=by have:=HL.out;rw[List.take_length]at this;exact this
   have H1:=zH hLE
   have hMd:=zH (show M0=zab (zax C.xs (C.xs.length+2) (s.begin_ d c) d.body) fun s2=>.ok ((s2.emit zfd).end_ c)from HM0.out)
   clear HL hlt hi hl hfl hll hlp hLE
   obtain⟨fg,fcap,ca,cc,x0,hl,hp,hfl,hfp,hll,hlp,hne,hfc,hff,hnl,hnp,hfg,hc0,hf5,hfB,⟨fcs,hfo⟩,hLP⟩:=H1.out.fstore CN.out (j:=3) (by omega) (by omega)
   have hbel:=HD.out.lt
   have hbcell:=HD.out.cell
   have hbne:w.heap.size≠fg:=HD.out.ne_ hfo (by decide)
   have HFO:=zH hfo
   have LP:=zH (hLP (fuFrom s.code.length) (.int .i64 (s.code.length:Int)) (fun _=>rfl))
   clear hfo hLP
   go_wp2_with fail
   go_region
   go_wp2_with fail
   refine zag (fun W=>LE C W (s.begin_ d c) V0) LP.out.drew ?_
   intro w2 hL2
   have H2:=zH hL2
   clear hL2 hl hp hfl hfp hll hlp hne hfc hff hnl hnp hfg hf5 hfB hbel hbcell hbne
   refine(zxj C (m-k) w2 (s.begin_ d c) V0 (w.heap.size+1) bv d.body k m (C.xs.length+2) (by rw[HV0.out]) H2.out HB.out HSP.out (Nat.le_refl _) (by have:=MN.out;omega) (by have:=LN.out;show s.code.length+_≤_;omega)).mono ?_
   rintro e w3 (⟨s3,v,hr,rfl,rfl,V3,hL3,hv3⟩ | ⟨f,g,hr,rfl,hfb,hle,hch⟩)
   rotate_left
   ·exact⟨rfl,.inr ⟨f,g,hMd.out.trans (by rw[hr,zc1]),rfl,hfb,hle,hch⟩⟩
   have MD3:=zH (show M0=.ok ((s3.emit zfd).end_ c)from hMd.out.trans (by rw[hr,zae]))
   have H3:=zH hL3
   have V3L:=zH (show V3.lm=some (w.heap.size+1)from hv3.trans (by rw[HV0.out]))
   have FS3:=zH (show s3.fs.length=s.fs.length by rw[(zlk _ _ _ _ hr).fs];exact List.length_modify _ _ _)
   have CL3:=zH (zf9 _ HSP.out hr)
   obtain⟨hl,hp,hfl,hfp,hll,hlp,_⟩:=hL3.cells
   clear hr hL3 hv3
   go_wp2_with fail
   refine(zde C w3 s3 V3 zfd (.slice none 0 0) H3.out (by have:=CL3.out;have:=LN.out;have h0:(s.begin_ d c).code.length=s.code.length:=rfl;omega) (World.ownsRow_nil _ _ _ _)).mono ?_
   rintro e w4 ⟨rfl,V4,hL4,hv4⟩
   have H4:=zH hL4
   have V4L:=zH (hv4.trans V3L.out)
   clear hL4 hv4 hl hp hfl hfp hll hlp
   obtain⟨fg4,fcap4,ca4,cc4,x4,hl,hp,hfl,hfp,hll,hlp,hne,hfc,hff,hnl,hnp,hfg,hc4,hf5,hfB,⟨fcs4,hfo⟩,hLP⟩:=H4.out.fstore (c:=c) (by have:=FS3.out;have:=CN.out;show c<s3.fs.length;omega) (j:=4) (by omega) (by omega)
   have LP4:=zH (hLP (fuTo (s3.emit zfd).code.length) (.int .i64 ((s3.emit zfd).code.length:Int)) (fun _=>rfl))
   clear hfo hLP
   go_wp2_with fail
   go_region
   go_wp2_with fail
   refine zbi (fun W=>LE C W { s3.emit zfd with fs:=(s3.emit zfd).fs.modify c (fuTo (s3.emit zfd).code.length) } V4) LP4.out.drew ?_
   intro w5 hL5
   have H5:=zH hL5
   clear hL5 hl hp hfl hfp hll hlp hne hfc hff hnl hnp hfg hf5 hfB
   obtain⟨fg5,fcap5,ca5,cc5,x5,hl,hp,hfl,hfp,hll,hlp,hne,hfc,hff,hnl,hnp,hfg,hc5,hf5,hfB,⟨fcs5,hfo⟩,hLP⟩:=H5.out.fstore (c:=c) (by rw[znq];have:=FS3.out;have:=CN.out;show c<s3.fs.length;omega) (j:=2) (by omega) (by omega)
   have LP5:=zH (hLP (zog s3.locs.length) (.int .i64 (s3.locs.length:Int)) (fun _=>rfl))
   rw[V4L.out]at hl
   have hlm:=(H5.out.lm _ V4L.out).1
   have hlenl:(Builtin.len_ #[212] 3 #[.map (some (w.heap.size+1))]).run Tryz.prog w5.drew=.ok (.int .i64 s3.locs.length) w5.drew:=nlen hlm.drew
   clear hfo hLP hlm
   have hcl5:c<s3.fs.length:=by have:=FS3.out;have:=CN.out;omega
   go_region
   have FIN:=zH (show LE C (w5.drew.setCell ⟨fg5,c*5+2,none⟩ (.int .i64 (s3.locs.length:Int))) ((s3.emit zfd).end_ c) V4 from by
    rw[end_eq]
    exact LP5.out.drew)
   all_goals (first | go_end0 | refine bodyPost_ret (results_none rfl _ _ _) rfl ?_)
   all_goals exact .inl ⟨_,_,MD3.out,rfl,rfl,V4,FIN.out⟩
end
section
open Go.RowKit Go.Maps
theorem zrf {t:ByteArray}:∀ (n:Nat) {s:Sc} {k:Nat} {p:List Dcl×List Stm},zdi t n s k=.ok p→s.at_≤t.size→s.at_+(p.1.length+p.2.length)≤t.size
 | 0,s,k,p,h,hs=>by rw[zdi]at h;cases h
 | n+1,s,k,p,h,hs=>by
  rw[zdi]at h
  split at h
  ·injection h with h;subst h;simpa using hs
  ·obtain⟨q,h1,h2⟩:=zac h
   obtain⟨r,h3,h4⟩:=zac h2
   injection h4 with h4
   subst h4
   obtain⟨a1,a2⟩:=zon h1 hs
   have:=zrf n h3 a1
   simp only[List.length_cons,List.length_append]
   omega
theorem ztl {t:ByteArray}{p:List Dcl×List Stm}(h:zd8 t=.ok p):p.1.length+p.2.length≤700:=by
 unfold zd8 at h
 split at h
 ·cases h
 ·obtain⟨s,h1,h2⟩:=zac h
  have a:=(zcv h1 (Nat.zero_le _)).1
  have:=zrf _ h2 a
  omega
def cntF (l:List Dcl):Nat:=(l.filter fun d=>decide (d.kind=102)).length
theorem zm3 (d:Dcl)(l:List Dcl):cntF (d::l)=(if d.kind=102 then 1 else 0)+cntF l:=by
 unfold cntF
 rw[List.filter_cons]
 by_cases h:d.kind=102 <;> simp[h] <;> omega
theorem zm2 (d:Dcl)(l:List Dcl):cntF (l++[d])=cntF l+(if d.kind=102 then 1 else 0):=by
 unfold cntF
 rw[List.filter_append,List.length_append]
 congr 1
 by_cases h:d.kind=102 <;> simp[h]
theorem zpo {α : Type}{l:List α}{i:Nat}{d:α}(h:l[i]? = some d):l.take (i+1)=l.take i++[d]:=by rw[List.take_add_one,h];rfl
theorem zq4 {s s':Lo}{d:Dcl}(h:zb3 s d=.ok s'):s'.code=s.code∧s'.fs.length=s.fs.length+(if d.kind=102 then 1 else 0)∨(d.kind≠118∧d.kind≠109∧d.kind≠102):=by
 unfold zb3 at h
 split at h
 ·cases h
 ·split at h
  ·rename_i hk
   split at h
   ·cases h
   ·injection h with h;subst h;left;rw[hk];exact⟨rfl,rfl⟩
  ·split at h
   ·rename_i hk
    split at h
    ·cases h
    ·injection h with h;subst h;left;rw[hk];exact⟨rfl,rfl⟩
   ·split at h
    ·cases h
    ·rename_i h1 h2 _
     injection h with h;subst h
     by_cases hk:d.kind=102
     ·left;rw[if_pos hk];exact⟨rfl,by simp⟩
     ·right;exact⟨h1,h2,hk⟩
theorem bodyM_ok {xs:List Stm}{s s':Lo}{d:Dcl}{c k m:Nat}(h:zi5 xs s d c=.ok s')(hsp:za3 (fun j=>xs[j]?) d.body k m) :
  s'.funs=s.funs∧s'.fs.length=s.fs.length∧s'.code.length≤s.code.length+3*(m-k)+1:=by
 unfold zi5 at h
 obtain⟨s2,h1,h2⟩:=zac h
 injection h2 with h2;subst h2
 have a:=zlk _ _ _ _ h1
 have b:=zf9 _ hsp h1
 refine⟨a.funs,?_,?_⟩
 ·show((s2.emit zfd).fs.modify c _).length=_
  rw[znq]
  show s2.fs.length=_
  rw[a.fs]
  exact znq _ _ _
 ·show(s2.emit zfd).code.length≤_
  rw[zb6]
  exact Nat.succ_le_succ b
def prOf (C:LC)(s:Lo)(m:Nat):Pr:={ ds:=C.ds,xs:=C.xs,nv:=s.nv,nm:=s.nm,fs:=s.fs,code:=s.code,at_:=s.at_,news:=s.news,gos:=s.gos,main:=m }
theorem LE.prog {C:LC}{w:World}{s:Lo}{V:LV}{pa pe B m:Nat}{t:ByteArray}{u u':Value}{xa xe:Array Value}(h:LE C w s V)(hB:B≤C.B0)(hB0:C.B0≤C.B)(ha:Blk w pa 158 xa)(he:Blk w pe 78 xe)(hM:zbu t=.ok (prOf C s m)) :
  zeu (((w.setCell ⟨C.pb,8,none⟩ (.int .i64 (m:Int))).setCell ⟨pa,0,none⟩ u).setCell ⟨pe,0,none⟩ u') B C.pb (prOf C s m) ⟨C.tb,V.fsv,V.cv,V.av,V.nv,V.gv,V.ags⟩:=by
 have a1:=ha.far (p:=⟨C.pb,8,none⟩) (ha.ne_ h.p (by decide)) (.int .i64 (m:Int))
 have e1:=he.far (p:=⟨C.pb,8,none⟩) (he.ne_ h.p (by decide)) (.int .i64 (m:Int))
 have e2:=e1.far (p:=⟨pa,0,none⟩) (e1.ne_ a1 (by decide)) u
 have hr:∀ {B e size n':Nat} {v:Value} {ys:List Value},w.ownsRow B e size v n' ys→e≠211→e≠158→e≠78→(((w.setCell ⟨C.pb,8,none⟩ (.int .i64 (m:Int))).setCell ⟨pa,0,none⟩ u).setCell ⟨pe,0,none⟩ u').ownsRow B e size v n' ys:=fun hr h1 h2 h3=>zaj (zaj (zaj hr h.p h1 _ _) a1 h2 _ _) e2 h3 _ _
 have low:∀ {B' e size n':Nat} {v:Value} {ys:List Value} {w:World},w.ownsRow B' e size v n' ys→B≤B'→w.ownsRow B e size v n' ys:=fun hr hb=>zbn hr hb
 have hBB:B≤C.B:=Nat.le_trans hB hB0
 have ht:zd4 w C.B0 C.tb C.ds C.xs:=h.c.tree.below0 h.bel (Nat.le_refl _)
 refine⟨Nat.le_trans hBB h.c.pb,⟨t,hM⟩,?_,(((h.p.set_ 8 _).far (h.p.ne_ ha (by decide)) _).far (h.p.ne_ he (by decide)) _).cast (by simp[zmm,prOf]),low (hr h.fr (by decide) (by decide) (by decide)) hBB,low (hr h.cr (by decide) (by decide) (by decide)) hBB,h.asl,fun k a i h1 h2=>low (hr (h.ar k a i h1 h2) (by decide) (by decide) (by decide)) hBB,low (hr h.atr (by decide) (by decide) (by decide)) hBB,low (hr h.nr (by decide) (by decide) (by decide)) hBB,low (hr h.gr (by decide) (by decide) (by decide)) hBB⟩
 exact(((ht.farT h.p (by decide) (by decide) (by decide) (by decide) (by decide) (by decide) _ _).farT a1 (by decide) (by decide) (by decide) (by decide) (by decide) (by decide) _ _).farT e2 (by decide) (by decide) (by decide) (by decide) (by decide) (by decide) _ _).low0 hB
end
section
open Go.RowKit Go.Maps
theorem ziu {w w1:World}{t:ByteArray}{f:Flt}{pa pe b:Nat}{xa ye:Array Value}{u v:Value}(ha:Blk w1 pa 158 xa)(he:Blk w1 pe 78 ye)
  (hM:zbu t=.error f) (hf:za1 w1 b f) (hb:w.heap.size≤b) (hpa:w.heap.size≤pa) (hpe:w.heap.size≤pe) (hc:Below w.heap.size w w1) :
  zi6 w t (.returned (.tuple #[.pointer none,.iface 206 (.pointer (some ⟨b,0,none⟩))])) ((w1.setCell ⟨pa,0,none⟩ u).setCell ⟨pe,0,none⟩ v) :=
 .inr ⟨f,b,hM,rfl,(Blk.far hf (p:=⟨pa,0,none⟩) (Blk.ne_ hf ha (by decide)) u).far (p:=⟨pe,0,none⟩) (Blk.ne_ hf he (by decide)) v,hb,(hc.setCell (by exact hpa) _).setCell (by exact hpe) _⟩
theorem zta {tmps:Array Value}{R:Ending→World→Prop}{w:World}{pa pe:Nat}{x y:Value}(h2:tmps[2]?.getD undef=.pointer (some ⟨pa,0,none⟩))(h3:tmps[3]?.getD undef=.pointer (some ⟨pe,0,none⟩))
  (ha:Blk w pa 158 #[x]) (he:Blk w pe 78 #[y]) (hR:R (.returned (.tuple #[x,y])) w):Leaves Tryz.prog Tryz.f69 tmps R [] .returning w:=by
 have c1:=ha.cell 0
 have c2:=he.cell 0
 refine⟨_,?_,hR⟩
 simp at c1 c2
 simp[results,Tryz.results69,go_sem,h2,h3,c1,c2]
structure WEnv (w:World)(W:World):Prop where
 a:Blk W w.heap.size 158 #[.pointer none]
 e:Blk W (w.heap.size+1) 78 #[.nilIface]
 c:Below w.heap.size w W
theorem WEnv.below {w W W1:World}{N:Nat}(h:WEnv w W)(hb:Below N W W1)(hN:W.heap.size≤N):WEnv w W1:=by
 have h1:=h.a.lt
 have h2:=h.e.lt
 exact⟨h.a.below hb (by omega),h.e.below hb (by omega),h.c.trans (hb.mono (Nat.le_trans h.c.size hN))⟩
def lcOf (w0:World)(B0 tb:Nat)(ds:List Dcl)(xs:List Stm):LC :=
 { w0:=w0,B0:=B0,tb:=tb,ds:=ds,xs:=xs,lb:=w0.heap.size+4,pb:=w0.heap.size,vb:=w0.heap.size+1,mb:=w0.heap.size+2,fb:=w0.heap.size+3 }
def V00:LV:=⟨none,.slice none 0 0,.slice none 0 0,.slice none 0 0,.slice none 0 0,.slice none 0 0,[]⟩
theorem le_start {w0:World}{B0 tb:Nat}{ds:List Dcl}{xs:List Stm}(hT:zd4 w0 B0 tb ds xs)(hS:zcf (fun j=>xs[j]?) ds 0 xs.length)(hx:xs.length≤700)(hd:ds.length≤700) :
  LE (lcOf w0 B0 tb ds xs) (((((w0.alloc (.cells #[.pointer (some ⟨tb,0,none⟩),.int .i64 0,.int .i64 0,.slice none 0 0,.slice none 0 0,.slice none 0 0,.slice none 0 0,.slice none 0 0,.int .i64 0] 211)).alloc (.map #[] 0)).alloc (.map #[] 0)).alloc (.map #[] 0)).alloc
   (.cells #[.pointer (some ⟨w0.heap.size,0,none⟩),.pointer (some ⟨tb,0,none⟩),.map (some (w0.heap.size+1)),.map (some (w0.heap.size+2)),.map (some (w0.heap.size+3)),.map none,.int .i64 0] 214)) {} V00:=by
 have mp:∀ (w:World) (b:Nat),b=w.heap.size→NM (w.alloc (.map #[] 0)) b []:=fun w b e=>by subst e;exact zaf.made _ _ _ _
 refine⟨⟨by simp[lcOf],by simp[lcOf],by simp[lcOf],by simp[lcOf],by simp[lcOf],by simp[lcOf],by simp[lcOf],by simp[lcOf],hT,hS,hx,hd⟩,
  ((((((Below.refl w0.heap.size w0).alloc (Nat.le_refl _) _).alloc (by simp) _).alloc (by simp;omega) _).alloc (by simp;omega) _).alloc (by simp;omega) _),
  Blk.newAt (by simp[lcOf]),((((Blk.newAt (by simp[lcOf])).alloc _).alloc _).alloc _).alloc _,(((mp _ _ (by simp[lcOf])).alloc _).alloc _).alloc _,((mp _ _ (by simp[lcOf])).alloc _).alloc _,(mp _ _ (by simp[lcOf])).alloc _,
  by simp[V00],World.ownsRow_nil _ _ _ _,World.ownsRow_nil _ _ _ _,rfl,by simp[V00],World.ownsRow_nil _ _ _ _,World.ownsRow_nil _ _ _ _,World.ownsRow_nil _ _ _ _,by simp[Sep,V00,Value.ownBlock],by simp[Sep,V00,Value.ownBlock],by simp[Sep,V00,Value.ownBlock],⟨rfl,by simp,by simp,by simp,by simp,by simp⟩⟩
theorem zb2.get {w:World}{B:Nat}:∀ {ps:List (Value×Value)} {ds:List Dcl} {k:Nat} {d:Dcl},zb2 w B ps ds→ds[k]? = some d→∃ p,ps[k]? = some p∧zbs w B p.1 d.params∧zbe w B p.2 d.body
 | [],[],k,d,_,h=>by simp at h
 | [],_::_,_,_,h,_=>h.elim
 | _::_,[],_,_,h,_=>h.elim
 | p::_,y::_,0,d,h,hd=>by simp at hd;subst hd;exact⟨p,rfl,h.1,h.2.1⟩
 | p::ps,y::ds,k+1,d,h,hd=>by
  obtain⟨q,h1,h2⟩:=zb2.get h.2.2 (k:=k) (d:=d) (by simpa using hd)
  exact⟨q,by simpa using h1,h2⟩
theorem zrc:∀ {ps:List (Value×Value)} {ds:List Dcl} {k:Nat} {p:Value×Value} {d:Dcl},ps[k]? = some p→ds[k]? = some d→∀ j,j<7→(ze1 ps ds)[k*7+j]? = (zar d p.1 p.2)[j]?
 | [],_,k,p,d,h,_,_,_=>by simp at h
 | _::_,[],k,p,d,_,h,_,_=>by simp at h
 | q::ps,e::ds,0,p,d,h,hd,j,hj=>by
  simp at h hd
  subst h hd
  show(zar e q.1 q.2++ze1 ps ds)[0*7+j]? = _
  rw[List.getElem?_append_left (by show _<7;omega),Nat.zero_mul,Nat.zero_add]
 | q::ps,e::ds,k+1,p,d,h,hd,j,hj=>by
  show(zar e q.1 q.2++ze1 ps ds)[(k+1)*7+j]? = _
  rw[List.getElem?_append_right (by show 7≤_;omega),show(k+1)*7+j-(zar e q.1 q.2).length=k*7+j by show _-7=_;omega]
  exact zrc (by simpa using h) (by simpa using hd) j hj
theorem zvf {C:LC}(hc:LCok C):∃ da dcap sv,Blk C.w0 C.tb 218 #[.slice da C.ds.length dcap,sv] ∧
  ∀ i d,C.ds[i]? = some d→∃ dg pv bv,da=some ⟨dg,0,none⟩∧dg<C.B∧(∀ j,j<7→C.w0.cell? ⟨dg,i*7+j,none⟩=(zar d pv bv)[j]?)∧zbs C.w0 C.B0 pv d.params∧zbe C.w0 C.B0 bv d.body:=by
 obtain⟨_,dv,sv,ptrs,ps,hb,_,_,hr,hd⟩:=hc.tree
 obtain⟨da,dcap,rfl⟩:=zat hr
 refine⟨da,dcap,sv,hb,fun i d h=>?_⟩
 have hlt:i<C.ds.length:=(List.getElem?_eq_some_iff.1 h).1
 obtain⟨dg,dc,hv,_,hl⟩:=hr.form (by omega)
 injection hv with h1 h2 h3
 obtain⟨p,hp,hN,hI⟩:=hd.get h
 subst h1
 refine⟨dg,p.1,p.2,rfl,hl,fun j hj=>?_,hN,hI⟩
 rw[hr.cellAt (i*7+j) (by omega),zrc hp h j hj]
def ziy (C:LC)(s:Lo):Except Flt Pr:=match mget s.funs zfc with
 | none=>.error ⟨11,0⟩
 | some m=>if 0<s.paramsOf m then .error ⟨11,0⟩else .ok (prOf C s m)
def zln (C:LC)(s:Lo):Except Flt Pr:=zab (zgi C.xs s C.ds 0) (ziy C)
def zmc (C:LC)(s:Lo):Except Flt Pr:=zab (zin s C.ds) fun _=>zln C s
def zn8 (C:LC)(M:Except Flt Pr)(g:Nat)(iv:Value)(W:World):Prop :=
 ∃ (i:Nat) (s:Lo) (V:LV),iv=.int .i64 i∧g=C.ds.length-i∧i≤C.ds.length∧LE C W s V∧s.fs.length=cntF (C.ds.take i)∧s.code=[]∧M=zab (zic s (C.ds.drop i)) (zmc C)
def zng (C:LC)(M:Except Flt Pr)(s:Lo)(V:LV)(g:Nat)(iv:Value)(W:World):Prop :=
 ∃ (i:Nat),iv=.int .i64 i∧g=C.ds.length-i∧i≤C.ds.length∧LE C W s V∧M=zab (zin s (C.ds.drop i)) fun _=>zln C s
def zly (C:LC)(M:Except Flt Pr)(g:Nat)(fv iv:Value)(W:World):Prop :=
 ∃ (i k:Nat) (s:Lo) (V:LV),fv=.int .i64 (cntF (C.ds.take i))∧iv=.int .i64 i∧g=C.ds.length-i∧i≤C.ds.length∧LE C W s V∧s.fs.length=cntF C.ds∧zcf (fun j=>C.xs[j]?) (C.ds.drop i) k C.xs.length∧s.code.length≤i+3*k ∧
  M=zab (zgi C.xs s (C.ds.drop i) (cntF (C.ds.take i))) (ziy C)
theorem zpc:∀ (l:List Dcl) (i:Nat) (d:Dcl),l[i]? = some d→d.kind=102→cntF (l.take i)<cntF l
 | [],i,d,h,_=>by simp at h
 | e::l,0,d,h,hk=>by simp at h;subst h;rw[List.take_zero,zm3,if_pos hk];show 0<_;omega
 | e::l,i+1,d,h,hk=>by
  rw[List.take_succ_cons,zm3,zm3]
  have:=zpc l i d (by simpa using h) hk
  omega
theorem cntF_len (l:List Dcl):cntF l≤l.length:=List.length_filter_le _ _
theorem zye {t:ByteArray}{ds:List Dcl}{xs:List Stm}{C:LC}(h:zd8 t=.ok (ds,xs))(h1:C.ds=ds)(h2:C.xs=xs):zbu t=zab (zic {} C.ds) (zmc C):=by
 unfold zbu
 rw[h,zae,h1.symm,h2.symm]
 rfl
theorem zxn {C:LC}{M:Except Flt Pr}{s:Lo}{V:LV}{W:World}(h:M=zln C s)(hL:LE C W s V)(hf:s.fs.length=cntF C.ds)(hc:s.code=[]):zly C M C.ds.length (.int .i64 (0:Int)) (.int .i64 (0:Int)) W :=
 ⟨0,0,s,V,rfl,rfl,rfl,Nat.zero_le _,hL,hf,hL.c.sp,by simp[hc],h⟩
end
section
open Go.RowKit Go.Maps
attribute [local go_sem] dclV zar
set_option linter.unusedSimpArgs false
theorem zhy.drew {α : Type}{w w':World}{r:Except Flt α}{K:α → Nat→World→Prop}{e:Ending}(h:zhy w r K e w')(hK:∀ a b,K a b w'→K a b w'.drew):zhy w r K e w'.drew:=by
 rcases h with⟨a,b,h1,h2,h3,h4,h5⟩ | ⟨f,b,h1,h2,h3,h4,h5⟩
 ·exact .inl ⟨a,b,h1,h2,hK _ _ h3,h4,h5.drew⟩
 ·exact .inr ⟨f,b,h1,h2,h3.drew,h4,h5.drew⟩
theorem zi6.drew {w w':World}{t:ByteArray}{e:Ending}(h:zi6 w t e w'):zi6 w t e w'.drew:=zhy.drew h fun _ _ h=>h.drew
theorem zcf.inv {f:Nat→Option Stm}{d:Dcl}{r:List Dcl}{k e:Nat}(h:zcf f (d::r) k e):okNm d.name∧((∀ a ∈ d.params,okNm a)∧d.params.length≤701)∧(d.kind=118∨d.kind=109∨d.kind=102)∧∃ m,za3 f d.body k m∧zcf f r m e:=by
 cases h with
 | cons a b c d e=>exact⟨a,b,c,_,d,e⟩
theorem zcf.drop {f:Nat→Option Stm}:∀ {l:List Dcl} {k e:Nat} (i:Nat),zcf f l k e→∃ k',zcf f (l.drop i) k' e
 | l,k,e,0,h=>⟨k,by simpa using h⟩
 | [],k,e,i+1,h=>⟨k,by simpa using h⟩
 | d::l,k,e,i+1,h=>by
  obtain⟨_,_,_,m,_,h2⟩:=h.inv
  exact zcf.drop i h2
theorem zlh {f:Nat→Option Stm}{l:List Dcl}{e i:Nat}{d:Dcl}(h:zcf f l 0 e)(hd:l[i]? = some d):okNm d.name∧((∀ a ∈ d.params,okNm a)∧d.params.length≤701)∧(d.kind=118∨d.kind=109∨d.kind=102):=by
 obtain⟨k',h'⟩:=h.drop i
 rw[zcc hd]at h'
 obtain⟨a,b,c,_⟩:=h'.inv
 exact⟨a,b,c⟩
theorem lw_fs {s s5:Lo}{l:List Dcl}{f:Nat→Option Stm}{e i:Nat}{d:Dcl}(h:zb3 s d=.ok s5)(hs:zcf f l 0 e)(hd:l[i]? = some d)(hf:s.fs.length=cntF (l.take i)):s5.fs.length=cntF (l.take (i+1)):=by
 obtain⟨_,_,hk⟩:=zlh hs hd
 rcases zq4 h with⟨_,h2⟩ | ⟨a,b,c⟩
 ·rw[zpo hd,zm2,h2,hf]
 ·rcases hk with hk | hk | hk
  ·exact absurd hk a
  ·exact absurd hk b
  ·exact absurd hk c
theorem lw_code {s s5:Lo}{l:List Dcl}{f:Nat→Option Stm}{e i:Nat}{d:Dcl}(h:zb3 s d=.ok s5)(hs:zcf f l 0 e)(hd:l[i]? = some d)(hf:s.code=[]):s5.code=[]:=by
 obtain⟨_,_,hk⟩:=zlh hs hd
 rcases zq4 h with⟨h1,_⟩ | ⟨a,b,c⟩
 ·exact h1.trans hf
 ·rcases hk with hk | hk | hk
  ·exact absurd hk a
  ·exact absurd hk b
  ·exact absurd hk c
theorem zsz (w:World)(t:ByteArray):Calls Tryz.prog 69 #[.string t] w (zi6 w t):=by
 have hmf:∀ (fn:Fn) (first cap:Array Value) (w:World),(Instr.makeFunc fn first cap).run Tryz.prog w=.ok (.func fn first cap) w:=fun _ _ _ _=>rfl
 have hmm:=@run_makeMap Tryz.prog
 go_enter_defers Tryz.func69,Tryz.ntmps69
 go_wp2_with fail
 refine zag (fun W=>WEnv w W∧W.heap.size=w.heap.size+2) ⟨⟨(Blk.newAt rfl).alloc _,Blk.newAt (by simp),(((Below.refl _ _).alloc (Nat.le_refl _) _).alloc (by simp) _)⟩,by simp⟩ ?_
 rintro w1 ⟨E1,z1⟩
 have HE1:=zH E1
 have Z1:=zH z1
 clear E1 z1
 refine(zuu w1 t).mono ?_
 rintro e w2 (⟨⟨ds,xs⟩,tb,hr,rfl,hT,htb,hB⟩ | ⟨f,b,hr,rfl,hf,hb,hB⟩)
 ·have ha:=(HE1.out.a.below hB (by have:=HE1.out.a.lt;omega))
  have he:=(HE1.out.e.below hB (by have:=HE1.out.e.lt;omega))
  have hec:=he.cell
  have hel:=he.lt
  have hef:=he.frozen
  obtain⟨w0,hw0⟩:∃ w0,w2.setCell ⟨w.heap.size+1,0,none⟩ .nilIface=w0:=⟨_,rfl⟩
  have hT0:zd4 w0 w1.heap.size tb ds xs:=by rw[← hw0];exact hT.farT he (by decide) (by decide) (by decide) (by decide) (by decide) (by decide) _ _
  have hE0:WEnv w w0:=by
   rw[← hw0]
   exact⟨ha.far (by simp) _,he.set_ 0 _,(HE1.out.c.trans (hB.mono HE1.out.c.size)).setCell (by exact Nat.le_succ _) _⟩
  have hcn:=ztl hr
  obtain⟨C,hC⟩:∃ C,C=lcOf w0 w1.heap.size tb ds xs:=⟨_,rfl⟩
  have LE0:=le_start hT0 (zxf hr) (by simp at hcn;omega) (by simp at hcn;omega)
  have HMD:=zH (zye (C:=C) hr (by rw[hC];rfl) (by rw[hC];rfl))
  rw[← hC]at LE0
  have HW0:=zH (show C.w0=w0 by rw[hC];rfl)
  have HC1:=zH (show C.lb=w0.heap.size+4∧C.pb=w0.heap.size∧C.tb=tb∧C.vb=w0.heap.size+1∧C.mb=w0.heap.size+2∧C.fb=w0.heap.size+3∧C.B0=w1.heap.size by rw[hC];exact⟨rfl,rfl,rfl,rfl,rfl,rfl,rfl⟩)
  have HEN:=zH (show WEnv w C.w0 by rw[HW0.out];exact hE0)
  have L0:=zH LE0
  have HB0:=zH (show w.heap.size≤C.B0∧C.B0≤C.B from⟨by rw[HC1.out.2.2.2.2.2.2];exact HE1.out.c.size,by rw[HC1.out.2.2.2.2.2.2,show C.B=w0.heap.size by rw[hC];rfl,← hw0];simpa [World.setCell] using hB.size⟩)
  have hec0:=hE0.e.cell
  clear hT he ha hT0 hE0 hcn LE0 hC hr hB htb
  go_upto_region 6 with fail
  refine zbi (fun W=>LE C W {} V00) L0.out ?_
  rintro w3 hL3
  rw[show w0.heap.size+1+1+1+1=C.lb from HC1.out.1.symm,show w0.heap.size+1+1+1=C.fb from HC1.out.2.2.2.2.2.1.symm,show w0.heap.size+1+1=C.mb from HC1.out.2.2.2.2.1.symm,show w0.heap.size+1=C.vb from HC1.out.2.2.2.1.symm,show w0.heap.size=C.pb from HC1.out.2.1.symm,show tb=C.tb from HC1.out.2.2.1.symm]
  clear hmm hec hel hef hec0 hw0
  obtain⟨da,dcap,sv,htb,htd⟩:=zvf hL3.c
  have HTD:=zH htd
  have HTB:=zH htb
  have HSP:=zH hL3.c.sp
  have hdl:C.ds.length≤700:=hL3.c.dl
  have htc:=(htb.below hL3.bel htb.lt).cell
  have ST1:=zH (show zn8 C (zbu t) C.ds.length (.int .i64 (0:Int)) w3 from⟨0,{},V00,rfl,rfl,Nat.zero_le _,hL3,rfl,rfl,HMD.out⟩)
  clear htd htb hL3
  go_wp2_with fail
  clear htc
  go_loopg [36] C.ds.length (fun g v36 wr=>zn8 C (zbu t) g v36 wr)
  case atStart=>exact ST1.out
  case round =>
   obtain⟨i,s,V,rfl,hg,hi,hL,hfs,hcd,hM⟩:=hrel
   have HG:=zH hg
   have HL:=zH hL
   have HFS:=zH hfs
   have HCD:=zH hcd
   have HM:=zH hM
   clear hg hL hfs hcd hM
   by_cases hlt:i<C.ds.length
   ·obtain⟨d,hd⟩:∃ d,C.ds[i]? = some d:=⟨_,List.getElem?_eq_getElem hlt⟩
    obtain⟨dg,pv,bv,hda,hdg,hdc,hpn,hbn⟩:=HTD.out i d hd
    obtain⟨pa,pc,rfl⟩:=zat hpn
    obtain⟨ba,bc,rfl⟩:=zat hbn
    have hq:∀ j,j<7→wr.cell? ⟨dg,i*7+j,none⟩=(zar d (.slice pa d.params.length pc) (.slice ba d.body.length bc))[j]? := fun j hj=>by rw[HL.out.bel.cell (p:=⟨dg,_,none⟩) hdg];exact hdc j hj
    have q0:wr.cell? ⟨dg,i*7,none⟩=some (.int .u8 d.kind.toNat):=hq 0 (by omega)
    have q1:wr.cell? ⟨dg,i*7+1,none⟩=some (.string d.name.text):=hq 1 (by omega)
    have q2:wr.cell? ⟨dg,i*7+2,none⟩=some (.int .i64 d.name.at_):=hq 2 (by omega)
    have q3:wr.cell? ⟨dg,i*7+3,none⟩=some (.bool d.name.num):=hq 3 (by omega)
    have q4:wr.cell? ⟨dg,i*7+4,none⟩=some (.int .i64 d.name.n):=hq 4 (by omega)
    have q5:wr.cell? ⟨dg,i*7+5,none⟩=some (.slice pa d.params.length pc):=hq 5 (by omega)
    have q6:wr.cell? ⟨dg,i*7+6,none⟩=some (.slice ba d.body.length bc):=hq 6 (by omega)
    subst hda
    have HPN:=zH hpn
    have HBN:=zH hbn
    have HDD:=zH hd
    have hdl:C.ds.length≤700:=HL.out.c.dl
    clear hd hdg hdc hpn hbn hq
    obtain⟨okn,okp,hk⟩:=zlh HSP.out HDD.out
    have HDC:=zH (fun W (h:LE C W s V)=>zvy C W s V d (.slice pa d.params.length pc) (.slice ba d.body.length bc) h okn pa pc rfl hk)
    have MD:=zH (show zbu t=zab (zb3 s d) fun s2=>zab (zic s2 (C.ds.drop (i+1))) (zmc C) by rw[HM.out,zcc HDD.out,zic,zig])
    clear okn okp hk
    go_wp2_with fail
    refine zag (fun W=>LE C W s V) (HL.out.alloc _) ?_
    intro w4 hL4
    have HL4:=zH hL4
    refine(HDC.out w4 hL4).mono ?_
    rintro e w5 (⟨s5,v,hr,rfl,rfl,V5,hL5,_⟩ | ⟨f,b,hr,rfl,hfb,hle,hch⟩)
    rotate_left
    ·have E9:=HEN.out.below (HL4.out.bel.trans hch) (Nat.le_refl _)
     refine zj0 rfl rfl E9.a E9.e (by omega) ?_
     exact ziu E9.a E9.e (MD.out.trans (by rw[hr,zc1])) hfb (Nat.le_trans HEN.out.c.size (Nat.le_trans HL4.out.bel.size hle)) (Nat.le_refl _) (by omega) E9.c
    have REL:=zH (show zn8 C (zbu t) (C.ds.length-(i+1)) (.int .i64 ((i+1:Nat):Int)) w5 from
     ⟨i+1,s5,V5,rfl,rfl,hlt,hL5,lw_fs hr HSP.out HDD.out HFS.out,lw_code hr HSP.out HDD.out HCD.out,MD.out.trans (by rw[hr,zae])⟩)
    clear hr hL5 hL4 q0 q1 q2 q3 q4 q5 q6
    go_wp2_with fail
    go_roundg (C.ds.length-(i+1))
    case measure=>have:=HG.out;omega
    case rel=>rw[show((i:Int)+1)=((i+1:Nat):Int) by omega];exact REL.out
   ·obtain rfl:i=C.ds.length:=by omega
    have hM2:=HM.out
    rw[List.drop_length,zic,zae]at hM2
    have hfs2:=HFS.out
    rw[List.take_length]at hfs2
    have HM2:=zH hM2
    have HFS2:=zH hfs2
    clear HM HFS hlt hi hM2 hfs2
    have htc:=(HTB.out.below HL.out.bel HTB.out.lt).cell
    have ST2:=zH (show zng C (zbu t) s V C.ds.length (.int .i64 (0:Int)) wr from⟨0,rfl,rfl,Nat.zero_le _,HL.out,HM2.out⟩)
    go_wp2_with fail
    clear htc
    go_loopg [49] C.ds.length (fun g v49 wr=>zng C (zbu t) s V g v49 wr)
    case atStart=>exact ST2.out
    case round =>
     rename_i wr0
     clear HL HG
     obtain⟨i,rfl,hg,hi,hL,hM⟩:=hrel
     have HG:=zH hg
     have HL:=zH hL
     have HM:=zH hM
     clear hg hL hM
     by_cases hlt:i<C.ds.length
     ·obtain⟨d,hd⟩:∃ d,C.ds[i]? = some d:=⟨_,List.getElem?_eq_getElem hlt⟩
      obtain⟨dg,pv,bv,hda,hdg,hdc,hpn,hbn⟩:=HTD.out i d hd
      obtain⟨pa,pc,rfl⟩:=zat hpn
      obtain⟨ba,bc,rfl⟩:=zat hbn
      have hq:∀ j,j<7→wr.cell? ⟨dg,i*7+j,none⟩=(zar d (.slice pa d.params.length pc) (.slice ba d.body.length bc))[j]? := fun j hj=>by rw[HL.out.bel.cell (p:=⟨dg,_,none⟩) hdg];exact hdc j hj
      have q0:wr.cell? ⟨dg,i*7,none⟩=some (.int .u8 d.kind.toNat):=hq 0 (by omega)
      have q1:wr.cell? ⟨dg,i*7+1,none⟩=some (.string d.name.text):=hq 1 (by omega)
      have q2:wr.cell? ⟨dg,i*7+2,none⟩=some (.int .i64 d.name.at_):=hq 2 (by omega)
      have q3:wr.cell? ⟨dg,i*7+3,none⟩=some (.bool d.name.num):=hq 3 (by omega)
      have q4:wr.cell? ⟨dg,i*7+4,none⟩=some (.int .i64 d.name.n):=hq 4 (by omega)
      have q5:wr.cell? ⟨dg,i*7+5,none⟩=some (.slice pa d.params.length pc):=hq 5 (by omega)
      have q6:wr.cell? ⟨dg,i*7+6,none⟩=some (.slice ba d.body.length bc):=hq 6 (by omega)
      subst hda
      have HPN:=zH hpn
      have HBN:=zH hbn
      have HDD:=zH hd
      have hdl:C.ds.length≤700:=HL.out.c.dl
      clear hd hdg hdc hpn hbn hq
      obtain⟨okn,okp,hk⟩:=zlh HSP.out HDD.out
      have HDC:=zH (fun W (h:LE C W s V)=>zto C W s V d (.slice pa d.params.length pc) (.slice ba d.body.length bc) h HPN.out okp)
      have MD:=zH (show zbu t=zab (zgf s d.params 0 []) fun _=>zab (zin s (C.ds.drop (i+1))) fun _=>zln C s by rw[HM.out,zcc HDD.out,zin,zig])
      clear okn okp hk
      go_wp2_with fail
      refine zag (fun W=>LE C W s V) (HL.out.alloc _) ?_
      intro w4 hL4
      have HL4:=zH hL4
      refine(HDC.out w4 hL4).mono ?_
      rintro e w5 (⟨s5,v,hr,rfl,rfl,hL5⟩ | ⟨f,b,hr,rfl,hfb,hle,hch⟩)
      rotate_left
      ·have E9:=HEN.out.below (HL4.out.bel.trans hch) (Nat.le_refl _)
       refine zj0 rfl rfl E9.a E9.e (by omega) ?_
       exact ziu E9.a E9.e (MD.out.trans (by rw[hr,zc1])) hfb (Nat.le_trans HEN.out.c.size (Nat.le_trans HL4.out.bel.size hle)) (Nat.le_refl _) (by omega) E9.c
      have REL:=zH (show zng C (zbu t) s V (C.ds.length-(i+1)) (.int .i64 ((i+1:Nat):Int)) w5 from
       ⟨i+1,rfl,rfl,hlt,hL5,MD.out.trans (by rw[hr,zae])⟩)
      clear hr hL5 hL4 q0 q1 q2 q3 q4 q5 q6
      go_wp2_with fail
      go_roundg (C.ds.length-(i+1))
      case measure=>have:=HG.out;omega
      case rel=>rw[show((i:Int)+1)=((i+1:Nat):Int) by omega];exact REL.out
     ·obtain rfl:i=C.ds.length:=by omega
      have hM2:=HM.out
      rw[List.drop_length,zin,zae]at hM2
      have HM3:=zH hM2
      clear HM hlt hi hM2
      have htc:=(HTB.out.below HL.out.bel HTB.out.lt).cell
      have ST3:=zH (zxn HM3.out HL.out HFS2.out HCD.out)
      go_wp2_with fail
      clear htc
      go_loopg [10,62] C.ds.length (fun g v10 v62 wr=>zly C (zbu t) g v10 v62 wr)
      case atStart=>exact ST3.out
      case round =>
       rename_i wr1
       clear HL HG HFS2 HCD
       obtain⟨i,k,s,V,rfl,rfl,hg,hi,hL,hfs,hds,hcl,hM⟩:=hrel
       have HG:=zH hg
       have HL:=zH hL
       have HM:=zH hM
       have HFS:=zH hfs
       have HDS:=zH hds
       have HCL:=zH hcl
       clear hg hL hM hfs hds hcl
       have hcn:=cntF_len (C.ds.take i)
       rw[List.length_take]at hcn
       have hcn2:cntF (C.ds.take i)≤700:=by omega
       clear hcn
       by_cases hlt:i<C.ds.length
       ·obtain⟨d,hd⟩:∃ d,C.ds[i]? = some d:=⟨_,List.getElem?_eq_getElem hlt⟩
        obtain⟨dg,pv,bv,hda,hdg,hdc,hpn,hbn⟩:=HTD.out i d hd
        obtain⟨pa,pc,rfl⟩:=zat hpn
        obtain⟨ba,bc,rfl⟩:=zat hbn
        have hq:∀ j,j<7→wr.cell? ⟨dg,i*7+j,none⟩=(zar d (.slice pa d.params.length pc) (.slice ba d.body.length bc))[j]? := fun j hj=>by rw[HL.out.bel.cell (p:=⟨dg,_,none⟩) hdg];exact hdc j hj
        have q0:wr.cell? ⟨dg,i*7,none⟩=some (.int .u8 d.kind.toNat):=hq 0 (by omega)
        have q1:wr.cell? ⟨dg,i*7+1,none⟩=some (.string d.name.text):=hq 1 (by omega)
        have q2:wr.cell? ⟨dg,i*7+2,none⟩=some (.int .i64 d.name.at_):=hq 2 (by omega)
        have q3:wr.cell? ⟨dg,i*7+3,none⟩=some (.bool d.name.num):=hq 3 (by omega)
        have q4:wr.cell? ⟨dg,i*7+4,none⟩=some (.int .i64 d.name.n):=hq 4 (by omega)
        have q5:wr.cell? ⟨dg,i*7+5,none⟩=some (.slice pa d.params.length pc):=hq 5 (by omega)
        have q6:wr.cell? ⟨dg,i*7+6,none⟩=some (.slice ba d.body.length bc):=hq 6 (by omega)
        subst hda
        have HPN:=zH hpn
        have HBN:=zH hbn
        have HDD:=zH hd
        have hdl:C.ds.length≤700:=HL.out.c.dl
        clear hd hdg hdc hpn hbn hq
        have hds:=HDS.out
        rw[zcc HDD.out]at hds
        obtain⟨okn,okp,hk,m,hsp,hds2⟩:=hds.inv
        have hmx:=hds2.le
        have hkm:=hsp.le
        have HD2:=zH hds2
        have HTK:=zH (zpo HDD.out)
        by_cases hf:d.kind=102
        ·have kf:((d.kind.toNat:Int)==102)=true:=by rw[hf];rfl
         have HCF:=zH (show cntF (C.ds.take (i+1))=cntF (C.ds.take i)+1 by rw[HTK.out,zm2,if_pos hf])
         have hlt2:=zpc C.ds i d HDD.out hf
         have hxl:=HL.out.c.xl
         have HDC:=zH (fun W (h:LE C W s V)=>body_any C W s V d (.slice pa d.params.length pc) (.slice ba d.body.length bc) (cntF (C.ds.take i)) k m h HPN.out HBN.out okp hsp hmx (by rw[HFS.out];exact hlt2) (by have:=HCL.out;omega))
         have MD:=zH (show zbu t=zab (zi5 C.xs s d (cntF (C.ds.take i))) fun s2=>zab (zgi C.xs s2 (C.ds.drop (i+1)) (cntF (C.ds.take (i+1)))) (ziy C) by rw[HM.out,zcc HDD.out,zgi,if_pos hf,zig,HCF.out])
         have HSB:=zH hsp
         clear okn okp hk hsp hds2 hds hf
         go_wp2_with fail
         refine zag (fun W=>LE C W s V) (HL.out.alloc _) ?_
         intro w4 hL4
         refine(HDC.out w4 hL4).mono ?_
         rintro e w5 (⟨s5,v,hr,rfl,rfl,V5,hL5⟩ | ⟨f,b,hr,rfl,hfb,hle,hch⟩)
         rotate_left
         ·have E9:=HEN.out.below hch (Nat.le_refl _)
          refine zj0 rfl rfl E9.a E9.e (by omega) ?_
          exact ziu E9.a E9.e (MD.out.trans (by rw[hr,zc1])) hfb (Nat.le_trans HEN.out.c.size hle) (Nat.le_refl _) (by omega) E9.c
         obtain⟨bo1,bo2,bo3⟩:=bodyM_ok hr HSB.out
         have REL:=zH (show zly C (zbu t) (C.ds.length-(i+1)) (.int .i64 ((cntF (C.ds.take (i+1)):Nat):Int)) (.int .i64 ((i+1:Nat):Int)) w5 from
          ⟨i+1,m,s5,V5,rfl,rfl,rfl,hlt,hL5,by rw[bo2,HFS.out],HD2.out,by have:=HCL.out;omega,MD.out.trans (by rw[hr,zae])⟩)
         clear hr hL5 hL4 q0 q1 q2 q3 q4 q5 q6 bo1 bo2 bo3
         go_wp2_with fail
         go_roundg (C.ds.length-(i+1))
         case measure=>have:=HG.out;omega
         case rel=>rw[show((i:Int)+1)=((i+1:Nat):Int) by omega,show((cntF (C.ds.take i):Int)+1)=((cntF (C.ds.take (i+1)):Nat):Int) by rw[HCF.out];omega];exact REL.out
        ·have kf:((d.kind.toNat:Int)==102)=false:=zai (fun e=>hf (UInt8.toNat_inj.1 (by show d.kind.toNat=102;omega)))
         have HCF:=zH (show cntF (C.ds.take (i+1))=cntF (C.ds.take i) by rw[HTK.out,zm2,if_neg hf];rfl)
         have MD:=zH (show zbu t=zab (zgi C.xs s (C.ds.drop (i+1)) (cntF (C.ds.take (i+1)))) (ziy C) by rw[HM.out,zcc HDD.out,zgi,if_neg hf,HCF.out])
         have REL:=zH (show ∀ o,zly C (zbu t) (C.ds.length-(i+1)) (.int .i64 ((cntF (C.ds.take i):Nat):Int)) (.int .i64 ((i+1:Nat):Int)) (wr.alloc o)from fun o =>
          ⟨i+1,m,s,V,by rw[HCF.out],rfl,rfl,hlt,HL.out.alloc o,HFS.out,HD2.out,by have:=HCL.out;omega,MD.out⟩)
         clear okn okp hk hsp hds2 hds hf hmx hkm
         go_wp2_with fail
         go_roundg (C.ds.length-(i+1))
         case measure=>have:=HG.out;omega
         case rel=>rw[show((i:Int)+1)=((i+1:Nat):Int) by omega];exact REL.out _
       ·obtain rfl:i=C.ds.length:=by omega
        have hM2:=HM.out
        rw[List.drop_length,zgi,zae]at hM2
        have HMT:=zH hM2
        clear HM hlt hi hM2
        obtain⟨hl,hp,hfl,hfp,hll,hlp,hne⟩:=HL.out.cells
        obtain⟨fa,fc,hfv⟩:=zat HL.out.fr
        rw[hfv]at hp
        have HFV:=zH hfv
        clear hfv
        have HKP:=zH (fun W (h:LE C W s V)=>zbo W C.fb s.funs zfc h.fm (by show(4:Nat)≤maxLen;unfold maxLen;omega))
        go_wp2_with fail
        refine zn7 ?_
        refine zh0 11 (fun w'=>w'.cell? ⟨C.lb,0,none⟩=some (.pointer (some ⟨C.pb,0,none⟩))∧w'.cell? ⟨C.lb,4,none⟩=some (.map (some C.fb))) (by kernel_rfl) rfl rfl (by kernel_rfl) ?_
        simp only[List.take_succ_cons,List.take_zero]
        have hHeld:wr.drew.cell? ⟨C.lb,0,none⟩=some (.pointer (some ⟨C.pb,0,none⟩))∧wr.drew.cell? ⟨C.lb,4,none⟩=some (.map (some C.fb)):=⟨by simp[hl],by simp[hl]⟩
        iterate 8(refine tk 0 rfl (by kernel_rfl) (fun _ _ _ h=>h) hHeld (fun w hSw=>by go_simp;try with_reducible rfl) (by simp only[pA,pB,pC,pD,pE,pF,pG,pH];exact rfl) ?_)
        refine rdy 8 (by kernel_rfl) rfl fun K hK=>?_
        go_simp
        refine(HKP.out _ HL.out.drew).mono ?_
        rintro e w' ⟨rfl,rfl⟩
        refine hK.out _ _ hHeld (fun hHeld=>?_)
        clear hK K
        iterate 2(refine tk 9 rfl (by kernel_rfl) (fun _ _ _ h=>h) hHeld (fun w hSw=>by go_simp;try with_reducible rfl) (by simp only[pA,pB,pC,pD,pE,pF,pG,pH];exact rfl) ?_)
        refine lst (by kernel_rfl) rfl fun K hK=>?_
        go_simp
        refine hK _ _ ?_
        clear hK K hHeld
        refine zgo ?_
        have hp6:Blk ((wr.setCell ⟨C.pb,8,none⟩ (.int .i64 (zcm s.funs zfc))).drew) C.pb 211 #[.pointer (some ⟨C.tb,0,none⟩),.int .i64 s.nv,.int .i64 s.nm,V.fsv,V.cv,V.av,V.nv,V.gv,.int .i64 (zcm s.funs zfc)]:=(HL.out.p.set_ 8 _).cast (by simp)
        have hl6:=(HL.out.l.far (p:=⟨C.pb,8,none⟩) hne (.int .i64 (zcm s.funs zfc))).drew
        have hb6:=((HL.out.bel.setCell (p:=⟨C.pb,8,none⟩) HL.out.c.pb (.int .i64 (zcm s.funs zfc))).drew)
        have hr6:=za2 (zaj HL.out.fr HL.out.p (by decide) 8 (.int .i64 (zcm s.funs zfc)))
        generalize hw6:(wr.setCell ⟨C.pb,8,none⟩ (.int .i64 (zcm s.funs zfc))).drew=w6 at hp6 hl6 hb6 hr6 ⊢
        have HW6:=zH hw6
        clear hw6 hl hp hfl hfp hll hlp hne
        have hl:=hl6.cell
        have hlf:=hl6.frozen
        have hll:=hl6.lt
        have hpl:=hp6.lt
        have HB6:=zH hb6
        have HR6:=zH hr6
        cases hmg:mget s.funs zfc with
        | none =>
         have hki:zcm s.funs zfc=-1:=by unfold zcm;rw[hmg]
         have MD:=zH (show zbu t=.error ⟨11,0⟩ by rw[HMT.out];unfold ziy;rw[hmg])
         rw[hki]at hp6
         have hp:=hp6.cell
         clear hmg hki hp6 hl6 hb6 hr6
         go_wp2_with fail
         go_quiet (fail)
         go_wp2_with fail
         refine(zdj _ _ _).mono ?_
         rintro e w4 ⟨rfl,rfl⟩
         have E9:=HEN.out.below ((zft HB6.out nq).alloc (zft HB6.out nq).size (.cells #[.int .i64 11,.int .i64 0] 323)) (Nat.le_refl _)
         refine zj0 rfl rfl E9.a E9.e (by omega) ?_
         exact ziu E9.a E9.e MD.out (za1.new rfl) (Nat.le_trans HEN.out.c.size (zft HB6.out nq).size) (Nat.le_refl _) (by omega) E9.c
        | some m =>
         have hki:zcm s.funs zfc=(m:Int):=by unfold zcm;rw[hmg]
         have hm:=HL.out.i.fok _ (zfi hmg)
         simp only at hm
         have hm5:m<5:=by have:=HL.out.i.fl;have:=HL.out.i.f5;omega
         have hf:s.fs[m]? = some s.fs[m]:=List.getElem?_eq_getElem hm
         obtain⟨fg,fcap,hfv,hfB,hfg⟩:=HR6.out.form (by omega)
         rw[hki]at hp6 HW6
         have hp:=hp6.cell
         rw[hfv]at hp
         have hrr:=HR6.out
         rw[hfv]at hrr
         have hfc:w6.cell? ⟨fg,m*5+1,none⟩=some (.int .i64 (s.fs[m].params:Int)):=by
          rw[hrr.cellAt (m*5+1) (by omega)]
          exact zj1 hf 1 (by omega)
         have hg0:decide ((m:Int)<0)=false:=by rw[decide_eq_false_iff_not];omega
         have MD0:=zH (show zbu t=if 0<s.fs[m].params then .error ⟨11,0⟩else .ok (prOf C s m) by rw[HMT.out];unfold ziy Lo.paramsOf;rw[hmg];simp only[hf])
         have HP6:=zH hp6
         clear hmg hki hp6 hl6 hb6 hr6 hfv hf hrr
         by_cases h0:0<s.fs[m].params
         ·have h0':decide ((0:Int)<(s.fs[m].params:Int))=true:=by rw[decide_eq_true_iff];omega
          have MD:=zH (MD0.out.trans (if_pos h0))
          go_wp2_with fail
          go_quiet (fail)
          go_wp2_with fail
          refine(zdj _ _ _).mono ?_
          rintro e w4 ⟨rfl,rfl⟩
          have E9:=HEN.out.below ((zft HB6.out nq).alloc (zft HB6.out nq).size (.cells #[.int .i64 11,.int .i64 0] 323)) (Nat.le_refl _)
          refine zj0 rfl rfl E9.a E9.e (by omega) ?_
          exact ziu E9.a E9.e MD.out (za1.new rfl) (Nat.le_trans HEN.out.c.size (zft HB6.out nq).size) (Nat.le_refl _) (by omega) E9.c
         ·have h0':decide ((0:Int)<(s.fs[m].params:Int))=false:=by rw[decide_eq_false_iff_not];omega
          have MD:=zH (MD0.out.trans (if_neg h0))
          have E6:=HEN.out.below HB6.out (Nat.le_refl _)
          have hac:=E6.a.cell
          have hec:=E6.e.cell
          have haf:∀ n i,(w6.drewN n).frozen? ⟨w.heap.size,i,none⟩=false:=fun n i=>(E6.a.drewN n).frozen i
          have hef:∀ n i,(w6.drewN n).frozen? ⟨w.heap.size+1,i,none⟩=false:=fun n i=>(E6.e.drewN n).frozen i
          have hal:=E6.a.lt
          have hel:=E6.e.lt
          have hapb:w.heap.size≠C.pb:=E6.a.ne_ HP6.out (by decide)
          have hepb:w.heap.size+1≠C.pb:=E6.e.ne_ HP6.out (by decide)
          have halb:w.heap.size≠C.lb:=fun e=>by have h1:=HL.out.c.lb;have h2:=HEN.out.a.lt;rw[e]at h2;exact absurd h2 (Nat.not_lt.2 h1)
          have helb:w.heap.size+1≠C.lb:=fun e=>by have h1:=HL.out.c.lb;have h2:=HEN.out.e.lt;rw[e]at h2;exact absurd h2 (Nat.not_lt.2 h1)
          go_wp2_with fail
          go_quiet (fail)
          go_wp2_with fail
          have ha4:=((E6.a.drewN nq).set_ 0 (.pointer (some ⟨C.pb,0,none⟩))).far (p:=⟨w.heap.size+1,0,none⟩) (by simp) .nilIface
          have he4:=((E6.e.drewN nq).far (p:=⟨w.heap.size,0,none⟩) (by simp) (.pointer (some ⟨C.pb,0,none⟩))).set_ 0 .nilIface
          show Leaves Tryz.prog Tryz.f69 _ (zi6 w t) _ _ _
          refine ztm (pa:=w.heap.size) (pe:=w.heap.size+1) rfl rfl ha4 he4 ?_
          have EW:=HEN.out.below HL.out.bel (Nat.le_refl _)
          have PG:=(HL.out.prog (u:=.pointer (some ⟨C.pb,0,none⟩)) (u':=.nilIface) HB0.out.1 HB0.out.2 EW.a EW.e MD.out).drew.drewN nq
          refine .inl ⟨prOf C s m,C.pb,MD.out,rfl,⟨⟨C.tb,V.fsv,V.cv,V.av,V.nv,V.gv,V.ags⟩,?_⟩,Nat.le_trans (Nat.le_trans HB0.out.1 HB0.out.2) HL.out.c.pb,((zft E6.c nq).setCell (by exact Nat.le_refl _) _).setCell (by exact Nat.le_succ _) _⟩
          rw[← HW6.out]
          exact PG
 ·have ha:=(HE1.out.a.below hB (by have:=HE1.out.a.lt;omega))
  have he:=(HE1.out.e.below hB (by have:=HE1.out.e.lt;omega))
  have hac:=ha.cell
  have hec:=he.cell
  have hal:=ha.lt
  have hel:=he.lt
  have haf:=ha.frozen
  have hef:=he.frozen
  have MD:=zH (show zbu t=.error f by unfold zbu;rw[hr,zc1])
  have HA:=zH ha
  have HE:=zH he
  have HF:=zH hf
  have HB:=zH (HE1.out.c.trans (hB.mono HE1.out.c.size))
  have HLB:=zH (Nat.le_trans HE1.out.c.size hb)
  clear ha he hr hf hB hb
  go_wp2_with fail
  go_region
  go_wp2_with fail
  have ha4:=(HA.out.far (p:=⟨w.heap.size+1,0,none⟩) (by simp) (.iface 206 (.pointer (some ⟨b,0,none⟩))))
  have he4:=(HE.out.set_ 0 (.iface 206 (.pointer (some ⟨b,0,none⟩))))
  have hf4:=Blk.far HF.out (p:=⟨w.heap.size+1,0,none⟩) (Blk.ne_ HF.out HE.out (by decide)) (.iface 206 (.pointer (some ⟨b,0,none⟩)))
  have hb4:=HB.out.setCell (p:=⟨w.heap.size+1,0,none⟩) (Nat.le_succ _) (.iface 206 (.pointer (some ⟨b,0,none⟩)))
  refine zta rfl rfl (Blk.drew ((ha4.set_ 0 (.pointer none)).far (p:=⟨w.heap.size+1,0,none⟩) (by simp) _)) (Blk.drew ((he4.far (p:=⟨w.heap.size,0,none⟩) (by simp) _).set_ 0 _)) ?_
  exact(ziu ha4 he4 MD.out hf4 HLB.out (Nat.le_refl _) (Nat.le_succ _) hb4).drew
end
end Go.Proofs.YtkmcihhndgdhpaaGreat
