/- Parts of the walk. -/
import Derived.Test.YtkmcihhndgdhpaaGreatWC2
import Derived.Test.YtkmcihhndgdhpaaGreatWC7
set_option maxRecDepth 100000
set_option maxHeartbeats 4000000
set_option linter.unusedSimpArgs false
set_option linter.unusedVariables false
open Go.ChangeMaps Go.Maps Go.RowKit Go.Shelf Go.Proofs.Tryz
namespace Go.Proofs.YtkmcihhndgdhpaaGreat
def RcPost (P:Pr)(w:World)(e:Ending)(w':World):Prop:=∃ rp pb,e=.r (.tuple #[.p rp,.nilIface])/\Blk w' rp 162 #[.p pb]/\zft w' w.heap.size pb P/\Below w.heap.size w w'
theorem zft.below {w w':World}{B pb M:Nat}{P:Pr}(h:zft w B pb P)(hb:Below M w w')(hM:w.heap.size<=M):zft w' B pb P:=by
 obtain⟨X,h⟩:=h;exact⟨X,h.below hb hM⟩
theorem zzs (t:ByteArray)(P:Pr)(h:z8 t=.ok P)(w:World):Calls prog 34 #[.string t] w (RcPost P w):=by
 have J:=zH (zyb w t);have H:=zH h;clear h;go_enter func34,ntmps34;go_wp2_with fail;refine J.o.mono ?_;rintro e D (⟨K,b,A,rfl,I,G,hb⟩ | ⟨f,b,A,_⟩);rotate_left
 ·rw[H.o]at A;cases A
 ·rw[H.o]at A;injection A with A;subst A;have E:=zH (show RcPost P w (.r (.tuple #[.p D.heap.size,.nilIface])) (D.alloc (.k #[.p b] 162))from⟨_,_,rfl,Blk.newAt rfl,I.below ((yn D.heap.size D).alloc yL _) yL,hb.alloc hb.size _⟩);clear I G hb;go_wp2;exact ym (v:=.tuple #[.p D.heap.size,.nilIface]) (by simp[results,results34,go_sem]) rfl E.o
def PrPost (P:Pr)(w:World)(e:Ending)(w':World):Prop:=∃ pp rp pb,e=.r (.tuple #[.p pp,.i 0,.i 0])/\Blk w' pp 82 #[.p rp]/\Blk w' rp 162 #[.p pb]/\zft w' w.heap.size pb P/\Below w.heap.size w w'
theorem zn9 (t:ByteArray)(P:Pr)(h:z8 t=.ok P)(w:World):Calls prog 15 #[.string t] w (PrPost P w):=by
 have H:=zH (zzs t P h w);clear h;go_enter func15,ntmps15;go_wp2_with fail;refine H.o.mono ?_;rintro e A ⟨I,pb,rfl,G,E,hb⟩;have D:=zH (show PrPost P w (.r (.tuple #[.p A.heap.size,.i 0,.i 0])) (A.alloc (.k #[.p I] 82))from⟨_,_,_,rfl,Blk.newAt rfl,G.alloc _,E.below ((yn A.heap.size A).alloc yL _) yL,hb.alloc hb.size _⟩);clear G E hb;go_wp2;exact ym (v:=.tuple #[.p A.heap.size,.i 0,.i 0]) (by simp[results,results15,go_sem]) rfl D.o
def AllAt (P:Pr)(w:World)(e:Ending)(w':World):Prop:=∃ rs v ps,zgh P rs/\e=.r v/\zfu w' w.heap.size v (runY (zb7 5000) [] rs) ps/\Below w.heap.size w w'
theorem zns (C:AX)(hW:WfAll C)(w:World)(hon:C.on w)(pp rp:Nat)(hp:Blk w pp 82 #[.p rp])(hr:Blk w rp 162 #[.p C.pb]) :
  Calls prog 32 #[.p pp] w (AllAt C.P w):=by
 have G:=zH (zzj C hW w hon pp rp (-1) hp hr);clear hp hr hon hW;go_enter func32,ntmps32;go_wp2_with fail;refine G.o.mono ?_;rintro e J ⟨rs,v,ps,E,rfl,D,hb⟩;obtain⟨H,I,rfl⟩:=zZ D.r;have A:=zH (show AllAt C.P w (.r (.slice H (runY (zb7 (ziv (-1))) [] rs).length I)) J from⟨rs,_,ps,E,rfl,D,hb⟩);clear E D hb;go_wp2;go_ret;exact A.o
def pickM (c n:Int):Int:=(if c<0 then -(c+1)else c).tmod n
end Go.Proofs.YtkmcihhndgdhpaaGreat
