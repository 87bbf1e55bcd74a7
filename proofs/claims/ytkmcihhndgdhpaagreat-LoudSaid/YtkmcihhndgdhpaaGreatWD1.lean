/- KpD: parts of the walk. -/
import Derived.Test.YtkmcihhndgdhpaaGreatWC9
import Derived.Test.YtkmcihhndgdhpaaGreatWD0
set_option maxRecDepth 100000
set_option maxHeartbeats 4000000
set_option linter.unusedSimpArgs false
set_option linter.unusedVariables false
namespace Go.Proofs.YtkmcihhndgdhpaaGreat
section
open Go.RowKit Go.Maps Go.ChangeMaps Go.Shelf
set_option linter.unusedSimpArgs false
def zej (t:List UInt8)(l:List Rp)(w:World)(e:Ending)(w':World):Prop:=∃ v ps,e=.returned (.agg #[.string (bytes t),v])∧zel w' w.heap.size v l ps∧Below w.heap.size w w'
theorem zev (a b:List UInt8):bytes a++bytes b=bytes (a++b):=by
 unfold bytes
 apply ByteArray.ext
 rw[ByteArray.data_append]
 simp
theorem ze6:∀ n,zaw ⟨#[120,61,49,59]⟩ n=bytes (zb1 n)
 | 0=>rfl
 | n+1=>by
  rw[zaw,ze6 n,zb1,← zev]
  rfl
theorem zfu {W:World}{B g cap:Nat}{r:Rp}{va vb:Value}(h:W.ownsRow B 69 8 (.slice (some ⟨g,0,none⟩) 1 cap) 1 (zbt r va vb).toList)(h1:W.ownsRow B 3 1 va r.la.length (ints r.la))(h2:W.ownsRow B 3 1 vb r.lb.length (ints r.lb)) :
  zel W B (.slice (some ⟨g,0,none⟩) 1 cap) [r] [(va,vb)] :=
 ⟨rfl,by simpa [zfh] using h,fun k r' p e1 e2=>by
  cases k with
  | zero =>
   simp at e1 e2
   subst e1 e2
   exact⟨h1,h2⟩
  | succ k=>simp at e1⟩
theorem two_rp {W:World}{B g cap:Nat}{r r':Rp}{va vb va' vb':Value}(h:W.ownsRow B 69 8 (.slice (some ⟨g,0,none⟩) 2 cap) 2 ((zbt r va vb).toList++(zbt r' va' vb').toList))(h1:W.ownsRow B 3 1 va r.la.length (ints r.la))(h2:W.ownsRow B 3 1 vb r.lb.length (ints r.lb))(h3:W.ownsRow B 3 1 va' r'.la.length (ints r'.la))(h4:W.ownsRow B 3 1 vb' r'.lb.length (ints r'.lb)) :
  zel W B (.slice (some ⟨g,0,none⟩) 2 cap) [r,r'] [(va,vb),(va',vb')] :=
 ⟨rfl,by simpa [zfh] using h,fun k q p e1 e2=>by
  match k with
  | 0 =>
   simp at e1 e2
   subst e1 e2
   exact⟨h1,h2⟩
  | 1 =>
   simp at e1 e2
   subst e1 e2
   exact⟨h3,h4⟩
  | k+2=>simp at e1⟩
theorem zcq (W:World)(B:Nat):W.ownsRow B 3 1 (.slice none 0 0) ([]:List Nat).length (ints []):=World.ownsRow_nil _ _ _ _
theorem zd2 {W:World}{t G c size b x:Nat}{cs z:Array Value}(hb:Blk W G t (cs++Builtin.zeroCells z (c-1)))(hB:b≤G)(hc:c=1+x % (2 ^ 63-1))(h1:cs.size=size)(h2:z.size=size):W.ownsRow b t size (.slice (some ⟨G,0,none⟩) 1 c) 1 cs.toList:=by
 have hx:x % (2 ^ 63-1)<2 ^ 63-1:=Nat.mod_lt _ (by decide)
 refine⟨by simp[h1],.inr ⟨G,c,_,rfl,hB,hb,by omega,by unfold maxLen;omega,?_,?_⟩⟩
 ·rw[Array.size_append,size_zeroCells,h1,h2]
  obtain⟨d,rfl⟩:∃ d,c=d+1:=⟨c-1,by omega⟩
  rw[Nat.add_sub_cancel,Nat.add_mul,Nat.one_mul,Nat.add_comm]
 ·rw[Nat.one_mul,← h1,Array.toList_append]
  simp
def ndHd:ByteArray:=⟨#[118,97,114,32,103,59,118,97,114,32,104,59,109,117,116,101,120,32,109,59,109,117,116,101,120,32,110,59]⟩
theorem noise0 (n:Nat)(hn:n<4)(w:World):Calls Tryz.prog 31 #[.int .i64 0,.int .i64 (n:Int)] w (zej (zaz 0 n) (zdd 0 n) w):=by
 go_enter Tryz.func31,Tryz.ntmps31
 go_wp2_with fail
 refine(zfo _ n _ (by decide) (by omega)).mono ?_
 rintro e w1 ⟨rfl,rfl⟩
 have hTs:(zaw ⟨#[120,61,49,59]⟩ n).size≤12:=by
  rw[zep]
  show n*4≤12
  omega
 obtain⟨S,hS⟩:∃ S:ByteArray,S=ndHd++⟨#[102,117,110,99,32,119,40,41,123,103,61,49,59,125,102,117,110,99,32,109,97,105,110,40,41,123]⟩++zaw ⟨#[120,61,49,59]⟩ n++⟨#[103,111,32,119,40,41,59,103,61,50,59,125]⟩:=⟨_,rfl⟩
 have HS:=zH (show S=bytes (zaz 0 n) by
  rw[hS,ze6]
  show bytes zcd++bytes ndA0++bytes (zb1 n)++bytes ndB0=_
  simp only[zev]
  rfl)
 unfold ndHd at hS
 generalize zaw ⟨#[120,61,49,59]⟩ n=T at hTs hS ⊢
 have hz1:¬ 9223372036854775807<54+T.size:=by omega
 have hz2:¬ 9223372036854775807<54+T.size+12:=by omega
 go_wp2_with fail
 rw[← hS]
 clear hS hz1 hz2
 refine(zgg _ _ _ _ _ _).mono ?_
 rintro e w2 ⟨rfl,rfl⟩
 go_wp2_with fail
 rw[HS.out]
 generalize hc:(Question.appendCap 1 0 69).cut _=c
 have hc1:∃ x,c=1+x % (2 ^ 63-1):=⟨_,hc.symm⟩
 obtain⟨x,hc1⟩:=hc1
 clear hc
 refine bodyPost_ret (v:=.agg #[.string (bytes (zaz 0 n)),.slice (some ⟨w.heap.size+1+1+1+1+1,0,none⟩) 1 c]) (by simp[results,Tryz.results31,go_sem]) rfl ?_
 refine⟨_,[(.slice none 0 0,.slice none 0 0)],rfl,zfu (zd2 (Blk.drew (Blk.newAt (by simp))) (by omega) hc1 rfl rfl) (zcq _ _) (zcq _ _),?_⟩
 refine Below.drew ?_
 repeat(first | exact Below.refl _ _ | refine Below.alloc ?_ (by simp <;> omega) _)
theorem noise1 (n:Nat)(hn:n<4)(w:World):Calls Tryz.prog 31 #[.int .i64 1,.int .i64 (n:Int)] w (zej (zaz 1 n) (zdd 1 n) w):=by
 go_enter Tryz.func31,Tryz.ntmps31
 go_wp2_with fail
 refine(zfo _ n _ (by decide) (by omega)).mono ?_
 rintro e w1 ⟨rfl,rfl⟩
 have hTs:(zaw ⟨#[120,61,49,59]⟩ n).size≤12:=by
  rw[zep]
  show n*4≤12
  omega
 obtain⟨S,hS⟩:∃ S:ByteArray,S=ndHd++⟨#[102,117,110,99,32,119,40,41,123,103,61,49,59,125,102,117,110,99,32,109,97,105,110,40,41,123]⟩++zaw ⟨#[120,61,49,59]⟩ n++⟨#[103,111,32,119,40,41,59,103,111,32,119,40,41,59,125]⟩:=⟨_,rfl⟩
 have HS:=zH (show S=bytes (zaz 1 n) by
  rw[hS,ze6]
  show bytes zcd++bytes ndA1++bytes (zb1 n)++bytes ndB1=_
  simp only[zev]
  rfl)
 unfold ndHd at hS
 generalize zaw ⟨#[120,61,49,59]⟩ n=T at hTs hS ⊢
 have hz1:¬ 9223372036854775807<54+T.size:=by omega
 have hz2:¬ 9223372036854775807<54+T.size+15:=by omega
 go_wp2_with fail
 rw[← hS]
 clear hS hz1 hz2
 refine(zgg _ _ _ _ _ _).mono ?_
 rintro e w2 ⟨rfl,rfl⟩
 go_wp2_with fail
 rw[HS.out]
 generalize hc:(Question.appendCap 1 0 69).cut _=c
 have hc1:∃ x,c=1+x % (2 ^ 63-1):=⟨_,hc.symm⟩
 obtain⟨x,hc1⟩:=hc1
 clear hc
 refine bodyPost_ret (v:=.agg #[.string (bytes (zaz 1 n)),.slice (some ⟨w.heap.size+1+1+1+1+1,0,none⟩) 1 c]) (by simp[results,Tryz.results31,go_sem]) rfl ?_
 refine⟨_,[(.slice none 0 0,.slice none 0 0)],rfl,zfu (zd2 (Blk.drew (Blk.newAt (by simp))) (by omega) hc1 rfl rfl) (zcq _ _) (zcq _ _),?_⟩
 refine Below.drew ?_
 repeat(first | exact Below.refl _ _ | refine Below.alloc ?_ (by simp <;> omega) _)
theorem noise2 (n:Nat)(hn:n<4)(w:World):Calls Tryz.prog 31 #[.int .i64 2,.int .i64 (n:Int)] w (zej (zaz 2 n) (zdd 2 n) w):=by
 go_enter Tryz.func31,Tryz.ntmps31
 go_wp2_with fail
 refine(zfo _ n _ (by decide) (by omega)).mono ?_
 rintro e w1 ⟨rfl,rfl⟩
 have hTs:(zaw ⟨#[120,61,49,59]⟩ n).size≤12:=by
  rw[zep]
  show n*4≤12
  omega
 obtain⟨S,hS⟩:∃ S:ByteArray,S=ndHd++⟨#[102,117,110,99,32,119,40,41,123,103,61,49,59,125,102,117,110,99,32,109,97,105,110,40,41,123]⟩++zaw ⟨#[120,61,49,59]⟩ n++⟨#[119,104,105,108,101,32,49,123,103,111,32,119,40,41,59,125,125]⟩:=⟨_,rfl⟩
 have HS:=zH (show S=bytes (zaz 2 n) by
  rw[hS,ze6]
  show bytes zcd++bytes ndA2++bytes (zb1 n)++bytes ndB2=_
  simp only[zev]
  rfl)
 unfold ndHd at hS
 generalize zaw ⟨#[120,61,49,59]⟩ n=T at hTs hS ⊢
 have hz1:¬ 9223372036854775807<54+T.size:=by omega
 have hz2:¬ 9223372036854775807<54+T.size+17:=by omega
 go_wp2_with fail
 rw[← hS]
 clear hS hz1 hz2
 refine(zgg _ _ _ _ _ _).mono ?_
 rintro e w2 ⟨rfl,rfl⟩
 go_wp2_with fail
 rw[HS.out]
 generalize hc:(Question.appendCap 1 0 69).cut _=c
 have hc1:∃ x,c=1+x % (2 ^ 63-1):=⟨_,hc.symm⟩
 obtain⟨x,hc1⟩:=hc1
 clear hc
 refine bodyPost_ret (v:=.agg #[.string (bytes (zaz 2 n)),.slice (some ⟨w.heap.size+1+1+1+1+1,0,none⟩) 1 c]) (by simp[results,Tryz.results31,go_sem]) rfl ?_
 refine⟨_,[(.slice none 0 0,.slice none 0 0)],rfl,zfu (zd2 (Blk.drew (Blk.newAt (by simp))) (by omega) hc1 rfl rfl) (zcq _ _) (zcq _ _),?_⟩
 refine Below.drew ?_
 repeat(first | exact Below.refl _ _ | refine Below.alloc ?_ (by simp <;> omega) _)
theorem noise5 (n:Nat)(hn:n<4)(w:World):Calls Tryz.prog 31 #[.int .i64 5,.int .i64 (n:Int)] w (zej (zaz 5 n) (zdd 5 n) w):=by
 go_enter Tryz.func31,Tryz.ntmps31
 go_wp2_with fail
 refine(zfo _ n _ (by decide) (by omega)).mono ?_
 rintro e w1 ⟨rfl,rfl⟩
 have hTs:(zaw ⟨#[120,61,49,59]⟩ n).size≤12:=by
  rw[zep]
  show n*4≤12
  omega
 obtain⟨S,hS⟩:∃ S:ByteArray,S=ndHd++⟨#[102,117,110,99,32,119,40,41,123,103,61,49,59,125,102,117,110,99,32,102,40,41,123,104,61,49,59,125,102,117,110,99,32,109,97,105,110,40,41,123]⟩++zaw ⟨#[120,61,49,59]⟩ n++⟨#[116,61,103,111,32,119,40,41,59,117,61,103,111,32,102,40,41,59,106,111,105,110,32,117,59,120,61,103,59,120,61,104,59,125]⟩:=⟨_,rfl⟩
 have HS:=zH (show S=bytes (zaz 5 n) by
  rw[hS,ze6]
  show bytes zcd++bytes ndA5++bytes (zb1 n)++bytes ndB5=_
  simp only[zev]
  rfl)
 unfold ndHd at hS
 generalize zaw ⟨#[120,61,49,59]⟩ n=T at hTs hS ⊢
 have hz1:¬ 9223372036854775807<68+T.size:=by omega
 have hz2:¬ 9223372036854775807<68+T.size+34:=by omega
 go_wp2_with fail
 rw[← hS]
 clear hS hz1 hz2
 refine(zgg _ _ _ _ _ _).mono ?_
 rintro e w2 ⟨rfl,rfl⟩
 go_wp2_with fail
 rw[HS.out]
 generalize hc:(Question.appendCap 1 0 69).cut _=c
 have hc1:∃ x,c=1+x % (2 ^ 63-1):=⟨_,hc.symm⟩
 obtain⟨x,hc1⟩:=hc1
 clear hc
 refine bodyPost_ret (v:=.agg #[.string (bytes (zaz 5 n)),.slice (some ⟨w.heap.size+1+1+1+1+1,0,none⟩) 1 c]) (by simp[results,Tryz.results31,go_sem]) rfl ?_
 refine⟨_,[(.slice none 0 0,.slice none 0 0)],rfl,zfu (zd2 (Blk.drew (Blk.newAt (by simp))) (by omega) hc1 rfl rfl) (zcq _ _) (zcq _ _),?_⟩
 refine Below.drew ?_
 repeat(first | exact Below.refl _ _ | refine Below.alloc ?_ (by simp <;> omega) _)
theorem noise11 (n:Nat)(hn:n<4)(w:World):Calls Tryz.prog 31 #[.int .i64 11,.int .i64 (n:Int)] w (zej (zaz 11 n) (zdd 11 n) w):=by
 go_enter Tryz.func31,Tryz.ntmps31
 go_wp2_with fail
 refine(zfo _ n _ (by decide) (by omega)).mono ?_
 rintro e w1 ⟨rfl,rfl⟩
 have hTs:(zaw ⟨#[120,61,49,59]⟩ n).size≤12:=by
  rw[zep]
  show n*4≤12
  omega
 obtain⟨S,hS⟩:∃ S:ByteArray,S=ndHd++⟨#[102,117,110,99,32,102,40,41,123,103,61,49,59,125,102,117,110,99,32,119,40,41,123,103,111,32,102,40,41,59,125,102,117,110,99,32,109,97,105,110,40,41,123]⟩++zaw ⟨#[120,61,49,59]⟩ n++⟨#[116,61,103,111,32,119,40,41,59,106,111,105,110,32,116,59,103,61,50,59,125]⟩:=⟨_,rfl⟩
 have HS:=zH (show S=bytes (zaz 11 n) by
  rw[hS,ze6]
  show bytes zcd++bytes ndA11++bytes (zb1 n)++bytes ndB11=_
  simp only[zev]
  rfl)
 unfold ndHd at hS
 generalize zaw ⟨#[120,61,49,59]⟩ n=T at hTs hS ⊢
 have hz1:¬ 9223372036854775807<71+T.size:=by omega
 have hz2:¬ 9223372036854775807<71+T.size+21:=by omega
 go_wp2_with fail
 rw[← hS]
 clear hS hz1 hz2
 refine(zgg _ _ _ _ _ _).mono ?_
 rintro e w2 ⟨rfl,rfl⟩
 go_wp2_with fail
 rw[HS.out]
 generalize hc:(Question.appendCap 1 0 69).cut _=c
 have hc1:∃ x,c=1+x % (2 ^ 63-1):=⟨_,hc.symm⟩
 obtain⟨x,hc1⟩:=hc1
 clear hc
 refine bodyPost_ret (v:=.agg #[.string (bytes (zaz 11 n)),.slice (some ⟨w.heap.size+1+1+1+1+1,0,none⟩) 1 c]) (by simp[results,Tryz.results31,go_sem]) rfl ?_
 refine⟨_,[(.slice none 0 0,.slice none 0 0)],rfl,zfu (zd2 (Blk.drew (Blk.newAt (by simp))) (by omega) hc1 rfl rfl) (zcq _ _) (zcq _ _),?_⟩
 refine Below.drew ?_
 repeat(first | exact Below.refl _ _ | refine Below.alloc ?_ (by simp <;> omega) _)
theorem noise6 (n:Nat)(hn:n<4)(w:World):Calls Tryz.prog 31 #[.int .i64 6,.int .i64 (n:Int)] w (zej (zaz 6 n) (zdd 6 n) w):=by
 go_enter Tryz.func31,Tryz.ntmps31
 go_wp2_with fail
 refine(zfo _ n _ (by decide) (by omega)).mono ?_
 rintro e w1 ⟨rfl,rfl⟩
 have hTs:(zaw ⟨#[120,61,49,59]⟩ n).size≤12:=by
  rw[zep]
  show n*4≤12
  omega
 obtain⟨S,hS⟩:∃ S:ByteArray,S=ndHd++⟨#[102,117,110,99,32,119,40,112,41,123,112,46,114,61,49,59,125,102,117,110,99,32,109,97,105,110,40,41,123]⟩++zaw ⟨#[120,61,49,59]⟩ n++⟨#[111,61,110,101,119,59,103,111,32,119,40,111,41,59,120,61,111,46,114,59,125]⟩:=⟨_,rfl⟩
 have HS:=zH (show S=bytes (zaz 6 n) by
  rw[hS,ze6]
  show bytes zcd++bytes ndA6++bytes (zb1 n)++bytes ndB6=_
  simp only[zev]
  rfl)
 unfold ndHd at hS
 generalize zaw ⟨#[120,61,49,59]⟩ n=T at hTs hS ⊢
 have hz1:¬ 9223372036854775807<57+T.size:=by omega
 have hz2:¬ 9223372036854775807<57+T.size+21:=by omega
 go_wp2_with fail
 rw[← hS]
 clear hS hz1 hz2
 rw[HS.out]
 generalize hc:(Question.appendCap 1 0 69).cut _=c
 have hc1:∃ x,c=1+x % (2 ^ 63-1):=⟨_,hc.symm⟩
 obtain⟨x,hc1⟩:=hc1
 clear hc
 refine bodyPost_ret (v:=.agg #[.string (bytes (zaz 6 n)),.slice (some ⟨w.heap.size+1+1+1,0,none⟩) 1 c]) (by simp[results,Tryz.results31,go_sem]) rfl ?_
 refine⟨_,[(.slice none 0 0,.slice none 0 0)],rfl,zfu (zd2 (Blk.drew (Blk.newAt (by simp))) (by omega) hc1 rfl rfl) (zcq _ _) (zcq _ _),?_⟩
 refine Below.drew ?_
 repeat(first | exact Below.refl _ _ | refine Below.alloc ?_ (by simp <;> omega) _)
theorem noise7 (n:Nat)(hn:n<4)(w:World):Calls Tryz.prog 31 #[.int .i64 7,.int .i64 (n:Int)] w (zej (zaz 7 n) (zdd 7 n) w):=by
 go_enter Tryz.func31,Tryz.ntmps31
 go_wp2_with fail
 refine(zfo _ n _ (by decide) (by omega)).mono ?_
 rintro e w1 ⟨rfl,rfl⟩
 have hTs:(zaw ⟨#[120,61,49,59]⟩ n).size≤12:=by
  rw[zep]
  show n*4≤12
  omega
 obtain⟨S,hS⟩:∃ S:ByteArray,S=ndHd++⟨#[102,117,110,99,32,119,40,41,123,108,111,99,107,32,109,59,111,61,103,59,117,110,108,111,99,107,32,109,59,111,46,108,61,50,59,125,102,117,110,99,32,109,97,105,110,40,41,123]⟩++zaw ⟨#[120,61,49,59]⟩ n++⟨#[111,61,110,101,119,59,108,111,99,107,32,109,59,103,61,111,59,117,110,108,111,99,107,32,109,59,103,111,32,119,40,41,59,120,61,111,46,108,59,125]⟩:=⟨_,rfl⟩
 have HS:=zH (show S=bytes (zaz 7 n) by
  rw[hS,ze6]
  show bytes zcd++bytes ndA7++bytes (zb1 n)++bytes ndB7=_
  simp only[zev]
  rfl)
 unfold ndHd at hS
 generalize zaw ⟨#[120,61,49,59]⟩ n=T at hTs hS ⊢
 have hz1:¬ 9223372036854775807<76+T.size:=by omega
 have hz2:¬ 9223372036854775807<76+T.size+40:=by omega
 go_wp2_with fail
 rw[← hS]
 clear hS hz1 hz2
 rw[HS.out]
 generalize hc:(Question.appendCap 1 0 69).cut _=c
 have hc1:∃ x,c=1+x % (2 ^ 63-1):=⟨_,hc.symm⟩
 obtain⟨x,hc1⟩:=hc1
 clear hc
 refine bodyPost_ret (v:=.agg #[.string (bytes (zaz 7 n)),.slice (some ⟨w.heap.size+1+1+1,0,none⟩) 1 c]) (by simp[results,Tryz.results31,go_sem]) rfl ?_
 refine⟨_,[(.slice none 0 0,.slice none 0 0)],rfl,zfu (zd2 (Blk.drew (Blk.newAt (by simp))) (by omega) hc1 rfl rfl) (zcq _ _) (zcq _ _),?_⟩
 refine Below.drew ?_
 repeat(first | exact Below.refl _ _ | refine Below.alloc ?_ (by simp <;> omega) _)
theorem noise9 (n:Nat)(hn:n<4)(w:World):Calls Tryz.prog 31 #[.int .i64 9,.int .i64 (n:Int)] w (zej (zaz 9 n) (zdd 9 n) w):=by
 go_enter Tryz.func31,Tryz.ntmps31
 go_wp2_with fail
 refine(zfo _ n _ (by decide) (by omega)).mono ?_
 rintro e w1 ⟨rfl,rfl⟩
 have hTs:(zaw ⟨#[120,61,49,59]⟩ n).size≤12:=by
  rw[zep]
  show n*4≤12
  omega
 obtain⟨S,hS⟩:∃ S:ByteArray,S=ndHd++⟨#[102,117,110,99,32,119,40,112,41,123,121,61,112,46,114,59,121,46,108,61,49,59,125,102,117,110,99,32,109,97,105,110,40,41,123]⟩++zaw ⟨#[120,61,49,59]⟩ n++⟨#[111,61,110,101,119,59,120,61,110,101,119,59,111,46,114,61,120,59,103,111,32,119,40,111,41,59,120,46,108,61,50,59,125]⟩:=⟨_,rfl⟩
 have HS:=zH (show S=bytes (zaz 9 n) by
  rw[hS,ze6]
  show bytes zcd++bytes ndA9++bytes (zb1 n)++bytes ndB9=_
  simp only[zev]
  rfl)
 unfold ndHd at hS
 generalize zaw ⟨#[120,61,49,59]⟩ n=T at hTs hS ⊢
 have hz1:¬ 9223372036854775807<63+T.size:=by omega
 have hz2:¬ 9223372036854775807<63+T.size+33:=by omega
 go_wp2_with fail
 rw[← hS]
 clear hS hz1 hz2
 rw[HS.out]
 generalize hc:(Question.appendCap 1 0 69).cut _=c
 have hc1:∃ x,c=1+x % (2 ^ 63-1):=⟨_,hc.symm⟩
 obtain⟨x,hc1⟩:=hc1
 clear hc
 refine bodyPost_ret (v:=.agg #[.string (bytes (zaz 9 n)),.slice (some ⟨w.heap.size+1+1+1,0,none⟩) 1 c]) (by simp[results,Tryz.results31,go_sem]) rfl ?_
 refine⟨_,[(.slice none 0 0,.slice none 0 0)],rfl,zfu (zd2 (Blk.drew (Blk.newAt (by simp))) (by omega) hc1 rfl rfl) (zcq _ _) (zcq _ _),?_⟩
 refine Below.drew ?_
 repeat(first | exact Below.refl _ _ | refine Below.alloc ?_ (by simp <;> omega) _)
theorem noise3 (n:Nat)(hn:n<4)(w:World):Calls Tryz.prog 31 #[.int .i64 3,.int .i64 (n:Int)] w (zej (zaz 3 n) (zdd 3 n) w):=by
 go_enter Tryz.func31,Tryz.ntmps31
 go_wp2_with fail
 refine(zfo _ n _ (by decide) (by omega)).mono ?_
 rintro e w1 ⟨rfl,rfl⟩
 have hTs:(zaw ⟨#[120,61,49,59]⟩ n).size≤12:=by
  rw[zep]
  show n*4≤12
  omega
 obtain⟨S,hS⟩:∃ S:ByteArray,S=ndHd++⟨#[102,117,110,99,32,119,40,41,123,108,111,99,107,32,109,59,103,61,49,59,117,110,108,111,99,107,32,109,59,125,102,117,110,99,32,109,97,105,110,40,41,123]⟩++zaw ⟨#[120,61,49,59]⟩ n++⟨#[103,111,32,119,40,41,59,108,111,99,107,32,110,59,120,61,103,59,117,110,108,111,99,107,32,110,59,125]⟩:=⟨_,rfl⟩
 have HS:=zH (show S=bytes (zaz 3 n) by
  rw[hS,ze6]
  show bytes zcd++bytes ndA3++bytes (zb1 n)++bytes ndB3=_
  simp only[zev]
  rfl)
 unfold ndHd at hS
 generalize zaw ⟨#[120,61,49,59]⟩ n=T at hTs hS ⊢
 have hz1:¬ 9223372036854775807<70+T.size:=by omega
 have hz2:¬ 9223372036854775807<70+T.size+28:=by omega
 go_wp2_with fail
 rw[← hS]
 clear hS hz1 hz2
 refine(zgg _ _ _ _ _ _).mono ?_
 rintro e w2 ⟨rfl,rfl⟩
 go_wp2_with fail
 rw[HS.out]
 generalize ha:(Question.appendCap 1 0 3).cut (w.tape w.drawn (Question.appendCap 1 0 3))=ca
 have ha1:∃ x,ca=1+x % (2 ^ 63-1):=⟨_,ha.symm⟩
 obtain⟨xa,ha1⟩:=ha1
 clear ha
 generalize hb:(Question.appendCap 1 0 3).cut (w.tape (w.drawn+1) (Question.appendCap 1 0 3))=cb
 have hb1:∃ x,cb=1+x % (2 ^ 63-1):=⟨_,hb.symm⟩
 obtain⟨xb,hb1⟩:=hb1
 clear hb
 generalize hc:(Question.appendCap 1 0 69).cut _=c
 have hc1:∃ x,c=1+x % (2 ^ 63-1):=⟨_,hc.symm⟩
 obtain⟨x,hc1⟩:=hc1
 clear hc
 refine bodyPost_ret (v:=.agg #[.string (bytes (zaz 3 n)),.slice (some ⟨w.heap.size+1+1+1+1+1+1+1+1+1,0,none⟩) 1 c]) (by simp[results,Tryz.results31,go_sem]) rfl ?_
 refine⟨_,[(.slice (some ⟨w.heap.size+1+1+1+1+1,0,none⟩) 1 ca,.slice (some ⟨w.heap.size+1+1+1+1+1+1+1,0,none⟩) 1 cb)],rfl,zfu (zd2 (z:=#[.int .i64 0,.int .i64 0,.int .i64 0,.int .i64 0,.int .i64 0,.int .i64 0,.slice none 0 0,.slice none 0 0]) (by repeat(first | exact Blk.newAt (by simp) | refine Blk.drew ?_ | refine Blk.alloc ?_ _)) (by omega) hc1 rfl rfl) (zd2 (cs:=#[.int .i64 0]) (z:=#[.int .i64 0]) (by repeat(first | exact Blk.newAt (by simp) | refine Blk.drew ?_ | refine Blk.alloc ?_ _)) (by omega) ha1 rfl rfl) (zd2 (cs:=#[.int .i64 1]) (z:=#[.int .i64 0]) (by repeat(first | exact Blk.newAt (by simp) | refine Blk.drew ?_ | refine Blk.alloc ?_ _)) (by omega) hb1 rfl rfl),?_⟩
 repeat(first | exact Below.refl _ _ | refine Below.drew ?_ | refine Below.alloc ?_ (by simp <;> omega) _)
theorem noise4 (n:Nat)(hn:n<4)(w:World):Calls Tryz.prog 31 #[.int .i64 4,.int .i64 (n:Int)] w (zej (zaz 4 n) (zdd 4 n) w):=by
 go_enter Tryz.func31,Tryz.ntmps31
 go_wp2_with fail
 refine(zfo _ n _ (by decide) (by omega)).mono ?_
 rintro e w1 ⟨rfl,rfl⟩
 have hTs:(zaw ⟨#[120,61,49,59]⟩ n).size≤12:=by
  rw[zep]
  show n*4≤12
  omega
 obtain⟨S,hS⟩:∃ S:ByteArray,S=ndHd++⟨#[102,117,110,99,32,119,40,41,123,108,111,99,107,32,109,59,103,61,49,59,117,110,108,111,99,107,32,109,59,125,102,117,110,99,32,109,97,105,110,40,41,123]⟩++zaw ⟨#[120,61,49,59]⟩ n++⟨#[103,111,32,119,40,41,59,108,111,99,107,32,109,59,117,110,108,111,99,107,32,109,59,120,61,103,59,125]⟩:=⟨_,rfl⟩
 have HS:=zH (show S=bytes (zaz 4 n) by
  rw[hS,ze6]
  show bytes zcd++bytes ndA4++bytes (zb1 n)++bytes ndB4=_
  simp only[zev]
  rfl)
 unfold ndHd at hS
 generalize zaw ⟨#[120,61,49,59]⟩ n=T at hTs hS ⊢
 have hz1:¬ 9223372036854775807<70+T.size:=by omega
 have hz2:¬ 9223372036854775807<70+T.size+28:=by omega
 go_wp2_with fail
 rw[← hS]
 clear hS hz1 hz2
 refine(zgg _ _ _ _ _ _).mono ?_
 rintro e w2 ⟨rfl,rfl⟩
 go_wp2_with fail
 rw[HS.out]
 generalize ha:(Question.appendCap 1 0 3).cut (w.tape w.drawn (Question.appendCap 1 0 3))=ca
 have ha1:∃ x,ca=1+x % (2 ^ 63-1):=⟨_,ha.symm⟩
 obtain⟨xa,ha1⟩:=ha1
 clear ha
 generalize hc:(Question.appendCap 1 0 69).cut _=c
 have hc1:∃ x,c=1+x % (2 ^ 63-1):=⟨_,hc.symm⟩
 obtain⟨x,hc1⟩:=hc1
 clear hc
 refine bodyPost_ret (v:=.agg #[.string (bytes (zaz 4 n)),.slice (some ⟨w.heap.size+1+1+1+1+1+1+1,0,none⟩) 1 c]) (by simp[results,Tryz.results31,go_sem]) rfl ?_
 refine⟨_,[(.slice (some ⟨w.heap.size+1+1+1+1+1,0,none⟩) 1 ca,.slice none 0 0)],rfl,zfu (zd2 (z:=#[.int .i64 0,.int .i64 0,.int .i64 0,.int .i64 0,.int .i64 0,.int .i64 0,.slice none 0 0,.slice none 0 0]) (by repeat(first | exact Blk.newAt (by simp) | refine Blk.drew ?_ | refine Blk.alloc ?_ _)) (by omega) hc1 rfl rfl) (zd2 (cs:=#[.int .i64 0]) (z:=#[.int .i64 0]) (by repeat(first | exact Blk.newAt (by simp) | refine Blk.drew ?_ | refine Blk.alloc ?_ _)) (by omega) ha1 rfl rfl) (zcq _ _),?_⟩
 repeat(first | exact Below.refl _ _ | refine Below.drew ?_ | refine Below.alloc ?_ (by simp <;> omega) _)
theorem noise8 (n:Nat)(hn:n<4)(w:World):Calls Tryz.prog 31 #[.int .i64 8,.int .i64 (n:Int)] w (zej (zaz 8 n) (zdd 8 n) w):=by
 go_enter Tryz.func31,Tryz.ntmps31
 go_wp2_with fail
 refine(zfo _ n _ (by decide) (by omega)).mono ?_
 rintro e w1 ⟨rfl,rfl⟩
 have hTs:(zaw ⟨#[120,61,49,59]⟩ n).size≤12:=by
  rw[zep]
  show n*4≤12
  omega
 obtain⟨S,hS⟩:∃ S:ByteArray,S=ndHd++⟨#[102,117,110,99,32,119,40,112,41,123,105,102,32,112,123,108,111,99,107,32,109,59,125,103,61,49,59,125,102,117,110,99,32,109,97,105,110,40,41,123]⟩++zaw ⟨#[120,61,49,59]⟩ n++⟨#[103,111,32,119,40,49,41,59,108,111,99,107,32,109,59,103,61,50,59,117,110,108,111,99,107,32,109,59,125]⟩:=⟨_,rfl⟩
 have HS:=zH (show S=bytes (zaz 8 n) by
  rw[hS,ze6]
  show bytes zcd++bytes ndA8++bytes (zb1 n)++bytes ndB8=_
  simp only[zev]
  rfl)
 unfold ndHd at hS
 generalize zaw ⟨#[120,61,49,59]⟩ n=T at hTs hS ⊢
 have hz1:¬ 9223372036854775807<68+T.size:=by omega
 have hz2:¬ 9223372036854775807<68+T.size+29:=by omega
 go_wp2_with fail
 rw[← hS]
 clear hS hz1 hz2
 refine(zgg _ _ _ _ _ _).mono ?_
 rintro e w2 ⟨rfl,rfl⟩
 go_wp2_with fail
 rw[HS.out]
 generalize hb:(Question.appendCap 1 0 3).cut (w.tape w.drawn (Question.appendCap 1 0 3))=cb
 have hb1:∃ x,cb=1+x % (2 ^ 63-1):=⟨_,hb.symm⟩
 obtain⟨xb,hb1⟩:=hb1
 clear hb
 generalize hc:(Question.appendCap 1 0 69).cut _=c
 have hc1:∃ x,c=1+x % (2 ^ 63-1):=⟨_,hc.symm⟩
 obtain⟨x,hc1⟩:=hc1
 clear hc
 refine bodyPost_ret (v:=.agg #[.string (bytes (zaz 8 n)),.slice (some ⟨w.heap.size+1+1+1+1+1+1+1,0,none⟩) 1 c]) (by simp[results,Tryz.results31,go_sem]) rfl ?_
 refine⟨_,[(.slice none 0 0,.slice (some ⟨w.heap.size+1+1+1+1+1,0,none⟩) 1 cb)],rfl,zfu (zd2 (z:=#[.int .i64 0,.int .i64 0,.int .i64 0,.int .i64 0,.int .i64 0,.int .i64 0,.slice none 0 0,.slice none 0 0]) (by repeat(first | exact Blk.newAt (by simp) | refine Blk.drew ?_ | refine Blk.alloc ?_ _)) (by omega) hc1 rfl rfl) (zcq _ _) (zd2 (cs:=#[.int .i64 0]) (z:=#[.int .i64 0]) (by repeat(first | exact Blk.newAt (by simp) | refine Blk.drew ?_ | refine Blk.alloc ?_ _)) (by omega) hb1 rfl rfl),?_⟩
 repeat(first | exact Below.refl _ _ | refine Below.drew ?_ | refine Below.alloc ?_ (by simp <;> omega) _)
theorem noise10 (n:Nat)(hn:n<4)(w:World):Calls Tryz.prog 31 #[.int .i64 10,.int .i64 (n:Int)] w (zej (zaz 10 n) (zdd 10 n) w):=by
 go_enter Tryz.func31,Tryz.ntmps31
 go_wp2_with fail
 refine(zfo _ n _ (by decide) (by omega)).mono ?_
 rintro e w1 ⟨rfl,rfl⟩
 have hTs:(zaw ⟨#[120,61,49,59]⟩ n).size≤12:=by
  rw[zep]
  show n*4≤12
  omega
 obtain⟨S,hS⟩:∃ S:ByteArray,S=ndHd++⟨#[102,117,110,99,32,119,40,41,123,103,61,49,59,125,102,117,110,99,32,109,97,105,110,40,41,123]⟩++zaw ⟨#[120,61,49,59]⟩ n++⟨#[116,61,103,111,32,119,40,41,59,121,61,104,59,105,102,32,121,123,116,61,103,111,32,119,40,41,59,125,106,111,105,110,32,116,59,120,61,103,59,125]⟩:=⟨_,rfl⟩
 have HS:=zH (show S=bytes (zaz 10 n) by
  rw[hS,ze6]
  show bytes zcd++bytes ndA10++bytes (zb1 n)++bytes ndB10=_
  simp only[zev]
  rfl)
 unfold ndHd at hS
 generalize zaw ⟨#[120,61,49,59]⟩ n=T at hTs hS ⊢
 have hz1:¬ 9223372036854775807<54+T.size:=by omega
 have hz2:¬ 9223372036854775807<54+T.size+40:=by omega
 go_wp2_with fail
 rw[← hS]
 clear hS hz1 hz2
 refine(zgg _ _ _ _ _ _).mono ?_
 rintro e w2 ⟨rfl,rfl⟩
 go_wp2_with fail
 refine(zgg _ _ _ _ _ _).mono ?_
 rintro e w3 ⟨rfl,rfl⟩
 go_upto_region 54 with fail
 generalize hc:(Question.appendCap 1 0 69).cut _=c
 have hc1:∃ x,c=1+x % (2 ^ 63-1):=⟨_,hc.symm⟩
 obtain⟨x,hc1⟩:=hc1
 clear hc
 have k4:Blk (((((((((w.alloc (.cells #[.string ⟨#[]⟩,.slice none 0 0] 73)).alloc (.cells #[.string S,.slice (some ⟨w.heap.size+1+1+1+1+1+1+1,0,none⟩) 1 c] 73)).alloc (.cells #[.int .i64 0,.int .i64 0,.int .i64 (-1),.int .i64 0,.int .i64 1,.int .i64 2,.slice none 0 0,.slice none 0 0] 69)).alloc (.cells #[.int .i64 0,.int .i64 0,.int .i64 (-1),.int .i64 0,.int .i64 1,.int .i64 2,.slice none 0 0,.slice none 0 0] 69)).alloc (.cells #[.int .i64 0,.int .i64 ((n:Int)+6),.int .i64 (-1),.int .i64 0,.int .i64 1,.int .i64 0,.slice none 0 0,.slice none 0 0] 69)).alloc (.cells #[.int .i64 0,.int .i64 ((n:Int)+6),.int .i64 (-1),.int .i64 0,.int .i64 1,.int .i64 0,.slice none 0 0,.slice none 0 0] 69)).alloc (.cells #[.int .i64 0,.int .i64 0,.int .i64 (-1),.int .i64 0,.int .i64 1,.int .i64 2,.slice none 0 0,.slice none 0 0] 69)).alloc (.cells (#[.int .i64 0,.int .i64 0,.int .i64 (-1),.int .i64 0,.int .i64 1,.int .i64 2,.slice none 0 0,.slice none 0 0]++Builtin.zeroCells #[.int .i64 0,.int .i64 0,.int .i64 0,.int .i64 0,.int .i64 0,.int .i64 0,.slice none 0 0,.slice none 0 0] (c-1)) 69)).drew) w.heap.size 73 #[.string ⟨#[]⟩,.slice none 0 0]:=(by repeat(first | exact Blk.newAt (by simp) | refine Blk.drew ?_ | refine Blk.alloc ?_ _))
 have k7:Blk (((((((((w.alloc (.cells #[.string ⟨#[]⟩,.slice none 0 0] 73)).alloc (.cells #[.string S,.slice (some ⟨w.heap.size+1+1+1+1+1+1+1,0,none⟩) 1 c] 73)).alloc (.cells #[.int .i64 0,.int .i64 0,.int .i64 (-1),.int .i64 0,.int .i64 1,.int .i64 2,.slice none 0 0,.slice none 0 0] 69)).alloc (.cells #[.int .i64 0,.int .i64 0,.int .i64 (-1),.int .i64 0,.int .i64 1,.int .i64 2,.slice none 0 0,.slice none 0 0] 69)).alloc (.cells #[.int .i64 0,.int .i64 ((n:Int)+6),.int .i64 (-1),.int .i64 0,.int .i64 1,.int .i64 0,.slice none 0 0,.slice none 0 0] 69)).alloc (.cells #[.int .i64 0,.int .i64 ((n:Int)+6),.int .i64 (-1),.int .i64 0,.int .i64 1,.int .i64 0,.slice none 0 0,.slice none 0 0] 69)).alloc (.cells #[.int .i64 0,.int .i64 0,.int .i64 (-1),.int .i64 0,.int .i64 1,.int .i64 2,.slice none 0 0,.slice none 0 0] 69)).alloc (.cells (#[.int .i64 0,.int .i64 0,.int .i64 (-1),.int .i64 0,.int .i64 1,.int .i64 2,.slice none 0 0,.slice none 0 0]++Builtin.zeroCells #[.int .i64 0,.int .i64 0,.int .i64 0,.int .i64 0,.int .i64 0,.int .i64 0,.slice none 0 0,.slice none 0 0] (c-1)) 69)).drew) (w.heap.size+1) 73 #[.string S,.slice (some ⟨w.heap.size+1+1+1+1+1+1+1,0,none⟩) 1 c]:=(by repeat(first | exact Blk.newAt (by simp) | refine Blk.drew ?_ | refine Blk.alloc ?_ _))
 have k16:Blk (((((((((w.alloc (.cells #[.string ⟨#[]⟩,.slice none 0 0] 73)).alloc (.cells #[.string S,.slice (some ⟨w.heap.size+1+1+1+1+1+1+1,0,none⟩) 1 c] 73)).alloc (.cells #[.int .i64 0,.int .i64 0,.int .i64 (-1),.int .i64 0,.int .i64 1,.int .i64 2,.slice none 0 0,.slice none 0 0] 69)).alloc (.cells #[.int .i64 0,.int .i64 0,.int .i64 (-1),.int .i64 0,.int .i64 1,.int .i64 2,.slice none 0 0,.slice none 0 0] 69)).alloc (.cells #[.int .i64 0,.int .i64 ((n:Int)+6),.int .i64 (-1),.int .i64 0,.int .i64 1,.int .i64 0,.slice none 0 0,.slice none 0 0] 69)).alloc (.cells #[.int .i64 0,.int .i64 ((n:Int)+6),.int .i64 (-1),.int .i64 0,.int .i64 1,.int .i64 0,.slice none 0 0,.slice none 0 0] 69)).alloc (.cells #[.int .i64 0,.int .i64 0,.int .i64 (-1),.int .i64 0,.int .i64 1,.int .i64 2,.slice none 0 0,.slice none 0 0] 69)).alloc (.cells (#[.int .i64 0,.int .i64 0,.int .i64 (-1),.int .i64 0,.int .i64 1,.int .i64 2,.slice none 0 0,.slice none 0 0]++Builtin.zeroCells #[.int .i64 0,.int .i64 0,.int .i64 0,.int .i64 0,.int .i64 0,.int .i64 0,.slice none 0 0,.slice none 0 0] (c-1)) 69)).drew) (w.heap.size+1+1+1+1+1) 69 #[.int .i64 0,.int .i64 ((n:Int)+6),.int .i64 (-1),.int .i64 0,.int .i64 1,.int .i64 0,.slice none 0 0,.slice none 0 0]:=(by repeat(first | exact Blk.newAt (by simp) | refine Blk.drew ?_ | refine Blk.alloc ?_ _))
 have hrow:(((((((((w.alloc (.cells #[.string ⟨#[]⟩,.slice none 0 0] 73)).alloc (.cells #[.string S,.slice (some ⟨w.heap.size+1+1+1+1+1+1+1,0,none⟩) 1 c] 73)).alloc (.cells #[.int .i64 0,.int .i64 0,.int .i64 (-1),.int .i64 0,.int .i64 1,.int .i64 2,.slice none 0 0,.slice none 0 0] 69)).alloc (.cells #[.int .i64 0,.int .i64 0,.int .i64 (-1),.int .i64 0,.int .i64 1,.int .i64 2,.slice none 0 0,.slice none 0 0] 69)).alloc (.cells #[.int .i64 0,.int .i64 ((n:Int)+6),.int .i64 (-1),.int .i64 0,.int .i64 1,.int .i64 0,.slice none 0 0,.slice none 0 0] 69)).alloc (.cells #[.int .i64 0,.int .i64 ((n:Int)+6),.int .i64 (-1),.int .i64 0,.int .i64 1,.int .i64 0,.slice none 0 0,.slice none 0 0] 69)).alloc (.cells #[.int .i64 0,.int .i64 0,.int .i64 (-1),.int .i64 0,.int .i64 1,.int .i64 2,.slice none 0 0,.slice none 0 0] 69)).alloc (.cells (#[.int .i64 0,.int .i64 0,.int .i64 (-1),.int .i64 0,.int .i64 1,.int .i64 2,.slice none 0 0,.slice none 0 0]++Builtin.zeroCells #[.int .i64 0,.int .i64 0,.int .i64 0,.int .i64 0,.int .i64 0,.int .i64 0,.slice none 0 0,.slice none 0 0] (c-1)) 69)).drew).ownsRow w.heap.size 69 8 (.slice (some ⟨w.heap.size+1+1+1+1+1+1+1,0,none⟩) 1 c) 1 #[.int .i64 0,.int .i64 0,.int .i64 (-1),.int .i64 0,.int .i64 1,.int .i64 2,.slice none 0 0,.slice none 0 0].toList:=zd2 (z:=#[.int .i64 0,.int .i64 0,.int .i64 0,.int .i64 0,.int .i64 0,.int .i64 0,.slice none 0 0,.slice none 0 0]) (by repeat(first | exact Blk.newAt (by simp) | refine Blk.drew ?_ | refine Blk.alloc ?_ _)) (by omega) hc1 rfl rfl
 have hb:Below w.heap.size w (((((((((w.alloc (.cells #[.string ⟨#[]⟩,.slice none 0 0] 73)).alloc (.cells #[.string S,.slice (some ⟨w.heap.size+1+1+1+1+1+1+1,0,none⟩) 1 c] 73)).alloc (.cells #[.int .i64 0,.int .i64 0,.int .i64 (-1),.int .i64 0,.int .i64 1,.int .i64 2,.slice none 0 0,.slice none 0 0] 69)).alloc (.cells #[.int .i64 0,.int .i64 0,.int .i64 (-1),.int .i64 0,.int .i64 1,.int .i64 2,.slice none 0 0,.slice none 0 0] 69)).alloc (.cells #[.int .i64 0,.int .i64 ((n:Int)+6),.int .i64 (-1),.int .i64 0,.int .i64 1,.int .i64 0,.slice none 0 0,.slice none 0 0] 69)).alloc (.cells #[.int .i64 0,.int .i64 ((n:Int)+6),.int .i64 (-1),.int .i64 0,.int .i64 1,.int .i64 0,.slice none 0 0,.slice none 0 0] 69)).alloc (.cells #[.int .i64 0,.int .i64 0,.int .i64 (-1),.int .i64 0,.int .i64 1,.int .i64 2,.slice none 0 0,.slice none 0 0] 69)).alloc (.cells (#[.int .i64 0,.int .i64 0,.int .i64 (-1),.int .i64 0,.int .i64 1,.int .i64 2,.slice none 0 0,.slice none 0 0]++Builtin.zeroCells #[.int .i64 0,.int .i64 0,.int .i64 0,.int .i64 0,.int .i64 0,.int .i64 0,.slice none 0 0,.slice none 0 0] (c-1)) 69)).drew):=by repeat(first | exact Below.refl _ _ | refine Below.drew ?_ | refine Below.alloc ?_ (by simp <;> omega) _)
 generalize ((((((((w.alloc (.cells #[.string ⟨#[]⟩,.slice none 0 0] 73)).alloc (.cells #[.string S,.slice (some ⟨w.heap.size+1+1+1+1+1+1+1,0,none⟩) 1 c] 73)).alloc (.cells #[.int .i64 0,.int .i64 0,.int .i64 (-1),.int .i64 0,.int .i64 1,.int .i64 2,.slice none 0 0,.slice none 0 0] 69)).alloc (.cells #[.int .i64 0,.int .i64 0,.int .i64 (-1),.int .i64 0,.int .i64 1,.int .i64 2,.slice none 0 0,.slice none 0 0] 69)).alloc (.cells #[.int .i64 0,.int .i64 ((n:Int)+6),.int .i64 (-1),.int .i64 0,.int .i64 1,.int .i64 0,.slice none 0 0,.slice none 0 0] 69)).alloc (.cells #[.int .i64 0,.int .i64 ((n:Int)+6),.int .i64 (-1),.int .i64 0,.int .i64 1,.int .i64 0,.slice none 0 0,.slice none 0 0] 69)).alloc (.cells #[.int .i64 0,.int .i64 0,.int .i64 (-1),.int .i64 0,.int .i64 1,.int .i64 2,.slice none 0 0,.slice none 0 0] 69)).alloc (.cells (#[.int .i64 0,.int .i64 0,.int .i64 (-1),.int .i64 0,.int .i64 1,.int .i64 2,.slice none 0 0,.slice none 0 0]++Builtin.zeroCells #[.int .i64 0,.int .i64 0,.int .i64 0,.int .i64 0,.int .i64 0,.int .i64 0,.slice none 0 0,.slice none 0 0] (c-1)) 69)).drew=wx at k4 k7 k16 hrow hb ⊢
 have HR:=zH hrow
 have K4:=zH k4
 have K7:=zH k7
 have HB:=zH hb
 have k7c:=k7.cell
 have k7l:=k7.lt
 have k16c:=k16.cell
 have k16l:=k16.lt
 have n47:w.heap.size≠w.heap.size+1:=by omega
 have n74:w.heap.size+1≠w.heap.size:=by omega
 clear hrow k4 k7 k16 hb hc1
 go_wp2_with (refine zhc tyRps rfl _ _ rfl w.heap.size _ 1 #[.int .i64 0,.int .i64 0,.int .i64 (-1),.int .i64 0,.int .i64 1,.int .i64 2,.slice none 0 0,.slice none 0 0].toList wx.heap.size _ #[.int .i64 0,.int .i64 ((n:Int)+6),.int .i64 (-1),.int .i64 0,.int .i64 1,.int .i64 0,.slice none 0 0,.slice none 0 0] (HR.out.alloc _) (Blk.newAt rfl) rfl rfl rfl (by simp[Value.oneCell']) (by omega) (by have:=HB.out.size;simp;omega) ?_;intro g cap w6 hrow6 hg6 hat6;have j4:=(K4.out.alloc (.cells #[.int .i64 0,.int .i64 ((n:Int)+6),.int .i64 (-1),.int .i64 0,.int .i64 1,.int .i64 0,.slice none 0 0,.slice none 0 0] 69)).append (HR.out.alloc (.cells #[.int .i64 0,.int .i64 ((n:Int)+6),.int .i64 (-1),.int .i64 0,.int .i64 1,.int .i64 0,.slice none 0 0,.slice none 0 0] 69)) hg6 (by decide);have j7:=(K7.out.alloc (.cells #[.int .i64 0,.int .i64 ((n:Int)+6),.int .i64 (-1),.int .i64 0,.int .i64 1,.int .i64 0,.slice none 0 0,.slice none 0 0] 69)).append (HR.out.alloc (.cells #[.int .i64 0,.int .i64 ((n:Int)+6),.int .i64 (-1),.int .i64 0,.int .i64 1,.int .i64 0,.slice none 0 0,.slice none 0 0] 69)) hg6 (by decide);have j4c:=j4.cell;have j4f:=j4.frozen;have j4l:=j4.lt;have j7c:=j7.cell;have j7f:=j7.frozen;have j7l:=j7.lt)
 have m7:=j7.set_ 1 (.slice (some ⟨g,0,none⟩) 2 cap)
 have m4:=j4.far (p:=⟨w.heap.size+1,1,none⟩) n47 (.slice (some ⟨g,0,none⟩) 2 cap)
 have m4b:=m4.set_ 0 (.string S)
 have m4c:=m4b.set_ 1 (.slice (some ⟨g,0,none⟩) 2 cap)
 have hrz:=zaj (zaj (zaj hrow6 j7 (by decide) 1 (.slice (some ⟨g,0,none⟩) 2 cap)) m4 (by decide) 0 (.string S)) m4b (by decide) 1 (.slice (some ⟨g,0,none⟩) 2 cap)
 have hbz:Below w.heap.size w (((w6.setCell ⟨w.heap.size+1,1,none⟩ (.slice (some ⟨g,0,none⟩) 2 cap)).setCell ⟨w.heap.size,0,none⟩ (.string S)).setCell ⟨w.heap.size,1,none⟩ (.slice (some ⟨g,0,none⟩) 2 cap)) :=
  ((((HB.out.alloc HB.out.size _).grown hg6 (by have:=HB.out.size;simp;omega) (fun k e=>(HR.out.lt k e).1)).setCell (p:=⟨w.heap.size+1,1,none⟩) (by show w.heap.size≤w.heap.size+1;omega) _).setCell (p:=⟨w.heap.size,0,none⟩) (Nat.le_refl _) _).setCell (p:=⟨w.heap.size,1,none⟩) (Nat.le_refl _) _
 generalize ((w6.setCell ⟨w.heap.size+1,1,none⟩ (.slice (some ⟨g,0,none⟩) 2 cap)).setCell ⟨w.heap.size,0,none⟩ (.string S)).setCell ⟨w.heap.size,1,none⟩ (.slice (some ⟨g,0,none⟩) 2 cap)=wz at m4c hrz hbz ⊢
 have q0:=m4c.cell 0
 have q1:=m4c.cell 1
 rw[HS.out]at q0 ⊢
 refine bodyPost_ret (v:=.agg #[.string (bytes (zaz 10 n)),.slice (some ⟨g,0,none⟩) 2 cap]) (by simp[results,Tryz.results31,go_sem,q0,q1]) rfl ?_
 exact⟨_,[(.slice none 0 0,.slice none 0 0),(.slice none 0 0,.slice none 0 0)],rfl,two_rp hrz (zcq _ _) (zcq _ _) (zcq _ _) (zcq _ _),hbz⟩
theorem zx8 (k n:Nat)(hk:k<12)(hn:n<4)(w:World):Calls Tryz.prog 31 #[.int .i64 (k:Int),.int .i64 (n:Int)] w (zej (zaz k n) (zdd k n) w):=by
 match k,hk with
 | 0,_=>exact noise0 n hn w
 | 1,_=>exact noise1 n hn w
 | 2,_=>exact noise2 n hn w
 | 3,_=>exact noise3 n hn w
 | 4,_=>exact noise4 n hn w
 | 5,_=>exact noise5 n hn w
 | 6,_=>exact noise6 n hn w
 | 7,_=>exact noise7 n hn w
 | 8,_=>exact noise8 n hn w
 | 9,_=>exact noise9 n hn w
 | 10,_=>exact noise10 n hn w
 | 11,_=>exact noise11 n hn w
 | k+12,h=>omega
end
end Go.Proofs.YtkmcihhndgdhpaaGreat
