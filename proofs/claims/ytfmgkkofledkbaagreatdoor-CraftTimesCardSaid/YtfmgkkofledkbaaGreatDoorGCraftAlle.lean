/- Lemmas and contracts of functions, in the order: Q4, Q5, Q6, Q7, Q8, Q9, Q10, Q11, Q12, Q13, Q14, Q15. -/
import Derived.Test.YtfmgkkofledkbaaGreatDoorGCraftAlld
set_option linter.all false
set_option maxHeartbeats 2000000
namespace Go.Proofs.YtfmgkkofledkbaaGreatDoor
open Go.V
attribute [local irreducible] G GO GP GPW GPK Ev Ef EfR Ent CB GB Enters
section
structure AmS where
 l:List (Int×Int)
 ad:Option Addr
 cap:Nat
 deriving Inhabited
def AmS.v (a:AmS):Value:=.slice a.ad a.l.length a.cap
abbrev amS (a:AmS):HP:=isl aB 2 a.ad a.l
theorem gh (a:AmS):PersM (amS a):=bB _ _ _ _
theorem jd {L:List HP} (ad:Option Addr) (n c:Nat) (xs:List (Int×Int)) [Rds L ad (Int×Int) aB 2 xs] (hn:n=xs.length) (hb:n≤1000000) :
  Tri Tryz.prog 239 #[.slice ad n c] L (fun v L'=>∃ ad' cap',v=.slice ad' xs.length cap'∧L' = osl aB 2 110 ad' cap' xs::L):=by
 refine Tri.body (args:=[.slice ad n c]) 8 Hv Tryz.func239 rfl rfl rfl (by simp) ?_
 repeat' first|refine aa ?_|intro _|with_reducible refine CB.dec (fun _=>?_) (fun _=>?_)|with_reducible refine GB.dec (fun _=>?_) (fun _=>?_)|with_reducible refine CB.bool (fun _=>?_) (fun _=>?_)|with_reducible refine GB.bool (fun _=>?_) (fun _=>?_)
 ·have h:ad=none:=by assumption
  subst h
  refine KX.d9 (.inl rfl) (jf (L:=L) (xs:=xs)) ?_
  intro hx
  subst hx
  refine KX.a6 ai (Ent.a7 aB 2 110) ⟨_,_,rfl,rfl⟩
 ·refine GO.ent (Ent.c6 (enc:=aB) (sz:=2) (xs:=[]) rfl rfl (by simp) (by simp)) ?_
  refine GO.ef (Ef.c6 rfl rfl rfl rfl hn (fun e _=>nT e) (by simp;omega) (by simp;omega)) ac ?_
  rintro _ _ ⟨ad',cap',rfl,rfl⟩
  repeat first|refine aa ?_|intro _
  refine KX.a6 ai (Ent.refl _) ⟨ad',cap',rfl,rfl⟩
structure ItG where
 name:ByteArray
 obj:Bool
 mixed:Bool
 coin:Bool
 wear:Int
 bind:Int
 level:Int
 deriving Inhabited
def aN (i:ItG):List Value:=[.string i.name,.bool i.obj,.bool i.mixed,.bool i.coin,.int .i64 i.wear,.int .i64 i.bind,.int .i64 i.level]
theorem rg (t:ItG):∀ u∈aN t,u.oneCell' = true:=by simp [aN,Value.oneCell']
instance:EncC aN:=⟨rg⟩
theorem tF {L:List HP} (ad:Option Addr) (n c:Nat) (xs:List ItG) [Rds L ad ItG aN 7 xs] (hn:n=xs.length) (hb:n≤1000000) :
  Tri Tryz.prog 142 #[.slice ad n c] L (fun v L'=>∃ ad' cap',v=.slice ad' xs.length cap'∧L' = osl aN 7 108 ad' cap' xs::L):=by
 refine Tri.body (args:=[.slice ad n c]) 8 IV Tryz.func142 rfl rfl rfl (by simp) ?_
 repeat' first|refine aa ?_|intro _|with_reducible refine CB.dec (fun _=>?_) (fun _=>?_)|with_reducible refine GB.dec (fun _=>?_) (fun _=>?_)|with_reducible refine CB.bool (fun _=>?_) (fun _=>?_)|with_reducible refine GB.bool (fun _=>?_) (fun _=>?_)
 ·have h:ad=none:=by assumption
  subst h
  refine KX.d9 (.inl rfl) (jf (L:=L) (xs:=xs)) ?_
  intro hx
  subst hx
  refine KX.a6 ai (Ent.a7 aN 7 108) ⟨_,_,rfl,rfl⟩
 ·refine GO.ent (Ent.c6 (enc:=aN) (sz:=7) (xs:=[]) rfl rfl (by simp) (by simp)) ?_
  refine GO.ef (Ef.c6 rfl rfl rfl rfl hn (fun e _=>rg e) (by simp;omega) (by simp;omega)) ac ?_
  rintro _ _ ⟨ad',cap',rfl,rfl⟩
  repeat first|refine aa ?_|intro _
  refine KX.a6 ai (Ent.refl _) ⟨ad',cap',rfl,rfl⟩
structure RuM where
 name:ByteArray
 spawn:Bool
 level:Int
 time:Int
 chance:Int
 of_:Int
 take:List (Int×Int)
 give:List (Int×Int)
 back:List (Int×Int)
 deriving Inhabited
structure RuV where
 name:ByteArray
 spawn:Bool
 level:Int
 time:Int
 chance:Int
 of_:Int
 take:AmS
 give:AmS
 back:AmS
 deriving Inhabited
def RuV.m (r:RuV):RuM:=⟨r.name,r.spawn,r.level,r.time,r.chance,r.of_,r.take.l,r.give.l,r.back.l⟩
def aA (r:RuV):List Value:=[.string r.name,.bool r.spawn,.int .i64 r.level,.int .i64 r.time,.int .i64 r.chance,.int .i64 r.of_,.slice r.take.ad r.take.l.length r.take.cap,.slice r.give.ad r.give.l.length r.give.cap,.slice r.back.ad r.back.l.length r.back.cap]
theorem td (t:RuV):∀ u∈aA t,u.oneCell' = true:=by simp [aA,Value.oneCell']
instance:EncC aA:=⟨td⟩
def ruP (r:RuV):HP:=andP (amS r.take) (andP (amS r.give) (amS r.back))
theorem gA (r:RuV):PersM (ruP r):=(gh _).and ((gh _).and (gh _))
def ru0:RuV:=⟨⟨#[]⟩,false,0,0,0,0,⟨[],none,0⟩,⟨[],none,0⟩,⟨[],none,0⟩⟩
def RuV.B (r:RuV):Prop:=r.take.l.length≤64∧r.give.l.length≤64∧r.back.l.length≤64
abbrev Aq:List Stp:=[.ev 0,.ev 1,.ev 3,.ev 4,.ev 6,.ev 7,.ef 2,.ev 9,.ef 5,.ef 8,.ef 10,.ev 11,.ef 12,.ev 13,.ef 14]
theorem jb {φ ψ:Prop} (k:ψ) (h:Hid ψ→φ:=by intro k;(with_reducible apply G.a7);first|refine G.a6 (N:=16) (id:=1) Aq mixed ah (Hid.out k)):φ:=h ⟨k⟩
theorem yq {L:List HP} (r:RuV) (hb:r.B) :
  Tri Tryz.prog 144 #[.agg (aA r).toArray] (ruP r::L) (fun v L'=>∃ r',v=.agg (aA r').toArray∧r'.m=r.m∧L' = ruP r'::ruP r::L):=by
 obtain ⟨name,spawn,level,time,chance,of_,⟨tl,tad,tcap⟩,⟨gl,gad,gcap⟩,⟨bl,bad,bcap⟩⟩:=r
 obtain ⟨hb1,hb2,hb3⟩:=hb
 dsimp only at hb1 hb2 hb3
 refine Tri.body (args:=[.agg (aA ⟨name,spawn,level,time,chance,of_,⟨tl,tad,tcap⟩,⟨gl,gad,gcap⟩,⟨bl,bad,bcap⟩⟩).toArray]) 16 IT Tryz.func144 rfl rfl rfl (by simp) ?_
 refine G.ent ((Ent.dup (gA _).pers).trans (Ent.andE.trans (Ent.a6 Ent.andE))) ?_
 simp only [amS]
 repeat first|refine aa ?_|intro _|refine jb ?_
 refine GPW.ef (Ef.a6 (jd tad tl.length tcap tl rfl ab) rfl) ac ?_
 rintro _ _ ⟨tad',tcap',rfl,rfl⟩
 repeat first|refine aa ?_|intro _|refine jb ?_
 refine GPW.ef (Ef.a6 (jd gad gl.length gcap gl rfl ab) rfl) ac ?_
 rintro _ _ ⟨gad',gcap',rfl,rfl⟩
 repeat first|refine aa ?_|intro _|refine jb ?_
 refine GPW.ef (Ef.a6 (jd bad bl.length bcap bl rfl ab) rfl) ac ?_
 rintro _ _ ⟨bad',bcap',rfl,rfl⟩
 repeat first|refine aa ?_|intro _|refine jb ?_
 refine KX.a6 (by exact ResOk.cell rfl (by rfl) (ResOk.nil)) ?_ ⟨⟨name,spawn,level,time,chance,of_,⟨tl,tad',tcap'⟩,⟨gl,gad',gcap'⟩,⟨bl,bad',bcap'⟩⟩,rfl,rfl,rfl⟩
 refine (Ent.frz bad').trans ((Ent.a6 (Ent.frz gad')).trans ((Ent.a6 (Ent.a6 (Ent.frz tad'))).trans ?_))
 refine Ent.trans (B:=amS ⟨tl,tad',tcap'⟩::amS ⟨gl,gad',gcap'⟩::amS ⟨bl,bad',bcap'⟩::ruP ⟨name,spawn,level,time,chance,of_,⟨tl,tad,tcap⟩,⟨gl,gad,gcap⟩,⟨bl,bad,bcap⟩⟩::L) (by simp only [amS];exact ae) ?_
 exact (Ent.a6 (Ent.d8 (gh _) (gh _))).trans (Ent.d8 (gh _) ((gh _).and (gh _)))
theorem yj {L:List HP} (ad:Option Addr) (c:Nat) (ms:List RuV) (hl:ms.length≤64) (hp:∀ m∈ms,RuV.B m) :
  Tri Tryz.prog 143 #[.slice ad ms.length c,.func (.func 144) #[] #[]] (isl aA 9 ad ms::allP ruP ms::L) (fun v L'=>∃ ad' c' ms',v=.slice ad' ms'.length c'∧ms'.map RuV.m=ms.map RuV.m∧L' = isl aA 9 ad' ms'::allP ruP ms'::isl aA 9 ad ms::allP ruP ms::L):=by
 refine Tri.body (args:=[.slice ad ms.length c,.func (.func 144) #[] #[]]) 29 IU Tryz.func143 rfl rfl rfl (by simp) ?_
 by_cases h0:ms.length=0
 ·have e:ms=[]:=List.eq_nil_of_length_eq_zero h0
  subst e
  repeat first|refine aa ?_|intro _
  exact KX.a6 ai ((Ent.c7 ruP).trans (Ent.c8 aA 9 none)) ⟨none,0,[],rfl,rfl,rfl⟩
 repeat first|refine aa ?_|intro _
 refine GO.ef (Ef.d9 aA ru0 rfl rfl rfl ab ab ab ab) ac ?_
 rintro _ _ ⟨bs,rfl,rfl⟩
 rw [show (ms.length:Int).toNat=ms.length by omega]
 repeat first|refine aa ?_|intro _
 refine G.loop (α:=Nat×List RuV) (fun z=>z.1≤ms.length∧z.2.length=ms.length∧(z.2.take z.1).map RuV.m=(ms.take z.1).map RuV.m) (fun z=>[(1,.func (.func 144) #[] #[]),(5,.slice (some ⟨bs,0,none⟩) ms.length ms.length),(14,.slice ad ms.length c),(15,.int .i64 (ms.length:Int)),(16,.int .i64 (z.1:Int))])
  (fun z=>osl aA 9 67 (some ⟨bs,0,none⟩) ms.length z.2::allP ruP (z.2.take z.1)::isl aA 9 ad ms::allP ruP ms::L) (fun z=>ms.length - z.1) (0,List.replicate ms.length ru0) ⟨Nat.zero_le _,by simp,by simp⟩ aj ?_ ?_
 ·dsimp only
  rw [List.take_zero]
  refine (Ent.c7 ruP).trans ?_
  exact ae
 rintro ⟨i,zs⟩ ⟨hi,hzl,hze⟩
 dsimp only at hi hzl hze ⊢
 by_cases hlt:i<ms.length
 case neg =>
  have hie:i=ms.length:=ab
  subst hie
  rw [List.take_of_length_le ab,List.take_of_length_le ab] at hze
  rw [List.take_of_length_le (show zs.length≤ms.length by omega)]
  repeat first|refine aa ?_|intro _
  refine KX.a6 ai (Ent.freezeSl) ⟨some ⟨bs,0,none⟩,ms.length,zs,by rw [hzl];rfl,hze,rfl⟩
 have hii:(i:Int).toNat=i:=ab
 have hmm:ms[i]!∈ms:=ap hlt
 repeat first|refine aa ?_|intro _
 rw [hii]
 refine GO.ent (Ent.at (A:=allP ruP ms) (Ent.a8 (x:=ms[i]!) hmm)) ?_
 refine GO.ef (Ef.a8 rfl rfl (yq ms[i]! (hp _ hmm))) ac ?_
 rintro _ _ ⟨m',rfl,hm',rfl⟩
 repeat first|refine aa ?_|intro _
 refine GO.efu (Ef.d8 (e:=m') rfl rfl (by rfl) (by rfl) (td _) ab) ?_
 rintro _ _ rfl
 rw [hii]
 repeat first|refine aa ?_|intro _
 refine ⟨(i+1,zs.set i m'),⟨by dsimp only;omega,by dsimp only;simp;omega,?_⟩,by dsimp only;omega,?_,?_⟩
 ·dsimp only
  rw [dh ab,List.take_succ_eq_append_getElem hlt,List.map_append,List.map_append,hze,← getElem!_of hlt]
  simp [hm']
 ·dsimp only
  rw [show ((i+1:Nat):Int)=(i:Int)+1 by omega]
  exact aj
 ·dsimp only
  rw [dh ab]
  refine Ent.a6 ?_
  refine Ent.trans (B:=allP ruP (zs.take i)::ruP m'::isl aA 9 ad ms::allP ruP ms::L) ae ?_
  exact (Ent.a6 (Ent.d9 gA)).trans (Ent.e8 gA)
structure RwM where
 weight:Int
 give:List (Int×Int)
 deriving Inhabited
structure RwV where
 weight:Int
 give:AmS
 deriving Inhabited
def RwV.m (r:RwV):RwM:=⟨r.weight,r.give.l⟩
def cI (r:RwV):List Value:=[.int .i64 r.weight,.slice r.give.ad r.give.l.length r.give.cap]
theorem tc (t:RwV):∀ u∈cI t,u.oneCell' = true:=by simp [cI,Value.oneCell']
instance:EncC cI:=⟨tc⟩
abbrev rwP (r:RwV):HP:=amS r.give
theorem lY (r:RwV):PersM (rwP r):=gh _
def rw0:RwV:=⟨0,⟨[],none,0⟩⟩
def RwV.B (r:RwV):Prop:=r.give.l.length≤64
theorem yp {L:List HP} (r:RwV) (hb:r.B) :
  Tri Tryz.prog 241 #[.agg (cI r).toArray] (rwP r::L) (fun v L'=>∃ r',v=.agg (cI r').toArray∧r'.m=r.m∧L' = rwP r'::rwP r::L):=by
 obtain ⟨weight,⟨gl,gad,gcap⟩⟩:=r
 unfold RwV.B at hb
 dsimp only at hb
 refine Tri.body (args:=[.agg (cI ⟨weight,⟨gl,gad,gcap⟩⟩).toArray]) 8 Ht Tryz.func241 rfl rfl rfl (by simp) ?_
 simp only [rwP,amS]
 repeat first|refine aa ?_|intro _
 refine GO.ef (Ef.a6 (jd gad gl.length gcap gl rfl ab) rfl) ac ?_
 rintro _ _ ⟨gad',gcap',rfl,rfl⟩
 repeat first|refine aa ?_|intro _
 refine KX.a6 (by exact ResOk.cell rfl (by rfl) (ResOk.nil)) ?_ ⟨⟨weight,⟨gl,gad',gcap'⟩⟩,rfl,rfl,rfl⟩
 refine (Ent.frz gad').trans ?_
 exact ae
theorem yi {L:List HP} (ad:Option Addr) (c:Nat) (ms:List RwV) (hl:ms.length≤64) (hp:∀ m∈ms,RwV.B m) :
  Tri Tryz.prog 240 #[.slice ad ms.length c,.func (.func 241) #[] #[]] (isl cI 2 ad ms::allP rwP ms::L) (fun v L'=>∃ ad' c' ms',v=.slice ad' ms'.length c'∧ms'.map RwV.m=ms.map RwV.m∧L' = isl cI 2 ad' ms'::allP rwP ms'::isl cI 2 ad ms::allP rwP ms::L):=by
 refine Tri.body (args:=[.slice ad ms.length c,.func (.func 241) #[] #[]]) 29 Hu Tryz.func240 rfl rfl rfl (by simp) ?_
 by_cases h0:ms.length=0
 ·have e:ms=[]:=List.eq_nil_of_length_eq_zero h0
  subst e
  repeat first|refine aa ?_|intro _
  exact KX.a6 ai ((Ent.c7 rwP).trans (Ent.c8 cI 2 none)) ⟨none,0,[],rfl,rfl,rfl⟩
 repeat first|refine aa ?_|intro _
 refine GO.ef (Ef.d9 cI rw0 rfl rfl rfl ab ab ab ab) ac ?_
 rintro _ _ ⟨bs,rfl,rfl⟩
 rw [show (ms.length:Int).toNat=ms.length by omega]
 repeat first|refine aa ?_|intro _
 refine G.loop (α:=Nat×List RwV) (fun z=>z.1≤ms.length∧z.2.length=ms.length∧(z.2.take z.1).map RwV.m=(ms.take z.1).map RwV.m) (fun z=>[(1,.func (.func 241) #[] #[]),(5,.slice (some ⟨bs,0,none⟩) ms.length ms.length),(14,.slice ad ms.length c),(15,.int .i64 (ms.length:Int)),(16,.int .i64 (z.1:Int))])
  (fun z=>osl cI 2 40 (some ⟨bs,0,none⟩) ms.length z.2::allP rwP (z.2.take z.1)::isl cI 2 ad ms::allP rwP ms::L) (fun z=>ms.length - z.1) (0,List.replicate ms.length rw0) ⟨Nat.zero_le _,by simp,by simp⟩ aj ?_ ?_
 ·dsimp only
  rw [List.take_zero]
  refine (Ent.c7 rwP).trans ?_
  exact ae
 rintro ⟨i,zs⟩ ⟨hi,hzl,hze⟩
 dsimp only at hi hzl hze ⊢
 by_cases hlt:i<ms.length
 case neg =>
  have hie:i=ms.length:=ab
  subst hie
  rw [List.take_of_length_le ab,List.take_of_length_le ab] at hze
  rw [List.take_of_length_le (show zs.length≤ms.length by omega)]
  repeat first|refine aa ?_|intro _
  refine KX.a6 ai (Ent.freezeSl) ⟨some ⟨bs,0,none⟩,ms.length,zs,by rw [hzl];rfl,hze,rfl⟩
 have hii:(i:Int).toNat=i:=ab
 have hmm:ms[i]!∈ms:=ap hlt
 repeat first|refine aa ?_|intro _
 rw [hii]
 refine GO.ent (Ent.at (A:=allP rwP ms) (Ent.a8 (x:=ms[i]!) hmm)) ?_
 refine GO.ef (Ef.a8 rfl rfl (yp ms[i]! (hp _ hmm))) ac ?_
 rintro _ _ ⟨m',rfl,hm',rfl⟩
 repeat first|refine aa ?_|intro _
 refine GO.efu (Ef.d8 (e:=m') rfl rfl (by rfl) (by rfl) (tc _) ab) ?_
 rintro _ _ rfl
 rw [hii]
 repeat first|refine aa ?_|intro _
 refine ⟨(i+1,zs.set i m'),⟨by dsimp only;omega,by dsimp only;simp;omega,?_⟩,by dsimp only;omega,?_,?_⟩
 ·dsimp only
  rw [dh ab,List.take_succ_eq_append_getElem hlt,List.map_append,List.map_append,hze,← getElem!_of hlt]
  simp [hm']
 ·dsimp only
  rw [show ((i+1:Nat):Int)=(i:Int)+1 by omega]
  exact aj
 ·dsimp only
  rw [dh ab]
  refine Ent.a6 ?_
  refine Ent.trans (B:=allP rwP (zs.take i)::rwP m'::isl cI 2 ad ms::allP rwP ms::L) ae ?_
  exact (Ent.a6 (Ent.d9 lY)).trans (Ent.e8 lY)
structure TbM where
 name:ByteArray
 rows:List RwM
 deriving Inhabited
structure TbV where
 name:ByteArray
 rows:List RwV
 ad:Option Addr
 cap:Nat
 deriving Inhabited
def TbV.m (t:TbV):TbM:=⟨t.name,t.rows.map RwV.m⟩
def aS (t:TbV):List Value:=[.string t.name,.slice t.ad t.rows.length t.cap]
theorem ta (t:TbV):∀ u∈aS t,u.oneCell' = true:=by simp [aS,Value.oneCell']
instance:EncC aS:=⟨ta⟩
def tbP (t:TbV):HP:=andP (isl cI 2 t.ad t.rows) (allP rwP t.rows)
theorem iO (t:TbV):PersM (tbP t):=(bB _ _ _ _).and (cj lY)
def tb0:TbV:=⟨⟨#[]⟩,[],none,0⟩
def TbV.B (t:TbV):Prop:=t.rows.length≤64∧∀ r∈t.rows,RwV.B r
theorem yo {L:List HP} (t:TbV) (hb:t.B) :
  Tri Tryz.prog 146 #[.agg (aS t).toArray] (tbP t::L) (fun v L'=>∃ t',v=.agg (aS t').toArray∧t'.m=t.m∧L' = tbP t'::tbP t::L):=by
 obtain ⟨name,rows,ad,cap⟩:=t
 obtain ⟨hb1,hb2⟩:=hb
 dsimp only at hb1 hb2
 refine Tri.body (args:=[.agg (aS ⟨name,rows,ad,cap⟩).toArray]) 8 IR Tryz.func146 rfl rfl rfl (by simp) ?_
 refine G.ent ((Ent.dup (iO _).pers).trans Ent.andE) ?_
 repeat first|refine aa ?_|intro _
 refine GO.ent (Ent.at (A:=isl cI 2 ad rows) (Ent.a6 (Ent.at (A:=allP rwP rows) (Ent.refl _)))) ?_
 refine GO.ef (Ef.a6 (yi ad cap rows hb1 hb2) rfl) ac ?_
 rintro _ _ ⟨ad',c',rows',rfl,hrows,rfl⟩
 repeat first|refine aa ?_|intro _
 refine KX.a6 (by exact ResOk.cell rfl (by rfl) (ResOk.nil)) ?_ ⟨⟨name,rows',ad',c'⟩,rfl,by simp only [TbV.m,hrows],rfl⟩
 refine Ent.trans (B:=isl cI 2 ad' rows'::allP rwP rows'::tbP ⟨name,rows,ad,cap⟩::L) ae ?_
 exact Ent.d8 (bB _ _ _ _) (cj lY)
theorem yh {L:List HP} (ad:Option Addr) (c:Nat) (ms:List TbV) (hl:ms.length≤64) (hp:∀ m∈ms,TbV.B m) :
  Tri Tryz.prog 145 #[.slice ad ms.length c,.func (.func 146) #[] #[]] (isl aS 2 ad ms::allP tbP ms::L) (fun v L'=>∃ ad' c' ms',v=.slice ad' ms'.length c'∧ms'.map TbV.m=ms.map TbV.m∧L' = isl aS 2 ad' ms'::allP tbP ms'::isl aS 2 ad ms::allP tbP ms::L):=by
 refine Tri.body (args:=[.slice ad ms.length c,.func (.func 146) #[] #[]]) 29 IS Tryz.func145 rfl rfl rfl (by simp) ?_
 by_cases h0:ms.length=0
 ·have e:ms=[]:=List.eq_nil_of_length_eq_zero h0
  subst e
  repeat first|refine aa ?_|intro _
  exact KX.a6 ai ((Ent.c7 tbP).trans (Ent.c8 aS 2 none)) ⟨none,0,[],rfl,rfl,rfl⟩
 repeat first|refine aa ?_|intro _
 refine GO.ef (Ef.d9 aS tb0 rfl rfl rfl ab ab ab ab) ac ?_
 rintro _ _ ⟨bs,rfl,rfl⟩
 rw [show (ms.length:Int).toNat=ms.length by omega]
 repeat first|refine aa ?_|intro _
 refine G.loop (α:=Nat×List TbV) (fun z=>z.1≤ms.length∧z.2.length=ms.length∧(z.2.take z.1).map TbV.m=(ms.take z.1).map TbV.m) (fun z=>[(1,.func (.func 146) #[] #[]),(5,.slice (some ⟨bs,0,none⟩) ms.length ms.length),(14,.slice ad ms.length c),(15,.int .i64 (ms.length:Int)),(16,.int .i64 (z.1:Int))])
  (fun z=>osl aS 2 37 (some ⟨bs,0,none⟩) ms.length z.2::allP tbP (z.2.take z.1)::isl aS 2 ad ms::allP tbP ms::L) (fun z=>ms.length - z.1) (0,List.replicate ms.length tb0) ⟨Nat.zero_le _,by simp,by simp⟩ aj ?_ ?_
 ·dsimp only
  rw [List.take_zero]
  refine (Ent.c7 tbP).trans ?_
  exact ae
 rintro ⟨i,zs⟩ ⟨hi,hzl,hze⟩
 dsimp only at hi hzl hze ⊢
 by_cases hlt:i<ms.length
 case neg =>
  have hie:i=ms.length:=ab
  subst hie
  rw [List.take_of_length_le ab,List.take_of_length_le ab] at hze
  rw [List.take_of_length_le (show zs.length≤ms.length by omega)]
  repeat first|refine aa ?_|intro _
  refine KX.a6 ai (Ent.freezeSl) ⟨some ⟨bs,0,none⟩,ms.length,zs,by rw [hzl];rfl,hze,rfl⟩
 have hii:(i:Int).toNat=i:=ab
 have hmm:ms[i]!∈ms:=ap hlt
 repeat first|refine aa ?_|intro _
 rw [hii]
 refine GO.ent (Ent.at (A:=allP tbP ms) (Ent.a8 (x:=ms[i]!) hmm)) ?_
 refine GO.ef (Ef.a8 rfl rfl (yo ms[i]! (hp _ hmm))) ac ?_
 rintro _ _ ⟨m',rfl,hm',rfl⟩
 repeat first|refine aa ?_|intro _
 refine GO.efu (Ef.d8 (e:=m') rfl rfl (by rfl) (by rfl) (ta _) ab) ?_
 rintro _ _ rfl
 rw [hii]
 repeat first|refine aa ?_|intro _
 refine ⟨(i+1,zs.set i m'),⟨by dsimp only;omega,by dsimp only;simp;omega,?_⟩,by dsimp only;omega,?_,?_⟩
 ·dsimp only
  rw [dh ab,List.take_succ_eq_append_getElem hlt,List.map_append,List.map_append,hze,← getElem!_of hlt]
  simp [hm']
 ·dsimp only
  rw [show ((i+1:Nat):Int)=(i:Int)+1 by omega]
  exact aj
 ·dsimp only
  rw [dh ab]
  refine Ent.a6 ?_
  refine Ent.trans (B:=allP tbP (zs.take i)::tbP m'::isl aS 2 ad ms::allP tbP ms::L) ae ?_
  exact (Ent.a6 (Ent.d9 iO)).trans (Ent.e8 iO)
structure TxM where
 name:ByteArray
 brs:List (Int×Int)
 deriving Inhabited
structure TxV where
 name:ByteArray
 brs:List (Int×Int)
 ad:Option Addr
 cap:Nat
 deriving Inhabited
def TxV.m (t:TxV):TxM:=⟨t.name,t.brs⟩
def aU (t:TxV):List Value:=[.string t.name,.slice t.ad t.brs.length t.cap]
theorem sZ (t:TxV):∀ u∈aU t,u.oneCell' = true:=by simp [aU,Value.oneCell']
instance:EncC aU:=⟨sZ⟩
def txP (t:TxV):HP:=isl aB 2 t.ad t.brs
theorem jY (t:TxV):PersM (txP t):=bB _ _ _ _
def tx0:TxV:=⟨⟨#[]⟩,[],none,0⟩
def TxV.B (t:TxV):Prop:=t.brs.length≤64
theorem vM {L:List HP} (ad:Option Addr) (n c:Nat) (xs:List (Int×Int)) [Rds L ad (Int×Int) aB 2 xs] (hn:n=xs.length) (hb:n≤1000000) :
  Tri Tryz.prog 242 #[.slice ad n c] L (fun v L'=>∃ ad' cap',v=.slice ad' xs.length cap'∧L' = osl aB 2 112 ad' cap' xs::L):=by
 refine Tri.body (args:=[.slice ad n c]) 8 Hs Tryz.func242 rfl rfl rfl (by simp) ?_
 repeat' first|refine aa ?_|intro _|with_reducible refine CB.dec (fun _=>?_) (fun _=>?_)|with_reducible refine GB.dec (fun _=>?_) (fun _=>?_)|with_reducible refine CB.bool (fun _=>?_) (fun _=>?_)|with_reducible refine GB.bool (fun _=>?_) (fun _=>?_)
 ·have h:ad=none:=by assumption
  subst h
  refine KX.d9 (.inl rfl) (jf (L:=L) (xs:=xs)) ?_
  intro hx
  subst hx
  refine KX.a6 ai (Ent.a7 aB 2 112) ⟨_,_,rfl,rfl⟩
 ·refine GO.ent (Ent.c6 (enc:=aB) (sz:=2) (xs:=[]) rfl rfl (by simp) (by simp)) ?_
  refine GO.ef (Ef.c6 rfl rfl rfl rfl hn (fun e _=>nT e) (by simp;omega) (by simp;omega)) ac ?_
  rintro _ _ ⟨ad',cap',rfl,rfl⟩
  repeat first|refine aa ?_|intro _
  refine KX.a6 ai (Ent.refl _) ⟨ad',cap',rfl,rfl⟩
theorem yn {L:List HP} (t:TxV) (hb:t.B) :
  Tri Tryz.prog 148 #[.agg (aU t).toArray] (txP t::L) (fun v L'=>∃ t',v=.agg (aU t').toArray∧t'.m=t.m∧L' = txP t'::txP t::L):=by
 obtain ⟨name,brs,ad,cap⟩:=t
 unfold TxV.B at hb
 dsimp only at hb
 refine Tri.body (args:=[.agg (aU ⟨name,brs,ad,cap⟩).toArray]) 8 IP Tryz.func148 rfl rfl rfl (by simp) ?_
 simp only [txP]
 repeat first|refine aa ?_|intro _
 refine GO.ef (Ef.a6 (vM ad brs.length cap brs rfl ab) rfl) ac ?_
 rintro _ _ ⟨ad',cap',rfl,rfl⟩
 repeat first|refine aa ?_|intro _
 refine KX.a6 (by exact ResOk.cell rfl (by rfl) (ResOk.nil)) ?_ ⟨⟨name,brs,ad',cap'⟩,rfl,rfl,rfl⟩
 refine (Ent.frz ad').trans ?_
 exact ae
theorem yg {L:List HP} (ad:Option Addr) (c:Nat) (ms:List TxV) (hl:ms.length≤64) (hp:∀ m∈ms,TxV.B m) :
  Tri Tryz.prog 147 #[.slice ad ms.length c,.func (.func 148) #[] #[]] (isl aU 2 ad ms::allP txP ms::L) (fun v L'=>∃ ad' c' ms',v=.slice ad' ms'.length c'∧ms'.map TxV.m=ms.map TxV.m∧L' = isl aU 2 ad' ms'::allP txP ms'::isl aU 2 ad ms::allP txP ms::L):=by
 refine Tri.body (args:=[.slice ad ms.length c,.func (.func 148) #[] #[]]) 29 IQ Tryz.func147 rfl rfl rfl (by simp) ?_
 by_cases h0:ms.length=0
 ·have e:ms=[]:=List.eq_nil_of_length_eq_zero h0
  subst e
  repeat first|refine aa ?_|intro _
  exact KX.a6 ai ((Ent.c7 txP).trans (Ent.c8 aU 2 none)) ⟨none,0,[],rfl,rfl,rfl⟩
 repeat first|refine aa ?_|intro _
 refine GO.ef (Ef.d9 aU tx0 rfl rfl rfl ab ab ab ab) ac ?_
 rintro _ _ ⟨bs,rfl,rfl⟩
 rw [show (ms.length:Int).toNat=ms.length by omega]
 repeat first|refine aa ?_|intro _
 refine G.loop (α:=Nat×List TxV) (fun z=>z.1≤ms.length∧z.2.length=ms.length∧(z.2.take z.1).map TxV.m=(ms.take z.1).map TxV.m) (fun z=>[(1,.func (.func 148) #[] #[]),(5,.slice (some ⟨bs,0,none⟩) ms.length ms.length),(14,.slice ad ms.length c),(15,.int .i64 (ms.length:Int)),(16,.int .i64 (z.1:Int))])
  (fun z=>osl aU 2 115 (some ⟨bs,0,none⟩) ms.length z.2::allP txP (z.2.take z.1)::isl aU 2 ad ms::allP txP ms::L) (fun z=>ms.length - z.1) (0,List.replicate ms.length tx0) ⟨Nat.zero_le _,by simp,by simp⟩ aj ?_ ?_
 ·dsimp only
  rw [List.take_zero]
  refine (Ent.c7 txP).trans ?_
  exact ae
 rintro ⟨i,zs⟩ ⟨hi,hzl,hze⟩
 dsimp only at hi hzl hze ⊢
 by_cases hlt:i<ms.length
 case neg =>
  have hie:i=ms.length:=ab
  subst hie
  rw [List.take_of_length_le ab,List.take_of_length_le ab] at hze
  rw [List.take_of_length_le (show zs.length≤ms.length by omega)]
  repeat first|refine aa ?_|intro _
  refine KX.a6 ai (Ent.freezeSl) ⟨some ⟨bs,0,none⟩,ms.length,zs,by rw [hzl];rfl,hze,rfl⟩
 have hii:(i:Int).toNat=i:=ab
 have hmm:ms[i]!∈ms:=ap hlt
 repeat first|refine aa ?_|intro _
 rw [hii]
 refine GO.ent (Ent.at (A:=allP txP ms) (Ent.a8 (x:=ms[i]!) hmm)) ?_
 refine GO.ef (Ef.a8 rfl rfl (yn ms[i]! (hp _ hmm))) ac ?_
 rintro _ _ ⟨m',rfl,hm',rfl⟩
 repeat first|refine aa ?_|intro _
 refine GO.efu (Ef.d8 (e:=m') rfl rfl (by rfl) (by rfl) (sZ _) ab) ?_
 rintro _ _ rfl
 rw [hii]
 repeat first|refine aa ?_|intro _
 refine ⟨(i+1,zs.set i m'),⟨by dsimp only;omega,by dsimp only;simp;omega,?_⟩,by dsimp only;omega,?_,?_⟩
 ·dsimp only
  rw [dh ab,List.take_succ_eq_append_getElem hlt,List.map_append,List.map_append,hze,← getElem!_of hlt]
  simp [hm']
 ·dsimp only
  rw [show ((i+1:Nat):Int)=(i:Int)+1 by omega]
  exact aj
 ·dsimp only
  rw [dh ab]
  refine Ent.a6 ?_
  refine Ent.trans (B:=allP txP (zs.take i)::txP m'::isl aU 2 ad ms::allP txP ms::L) ae ?_
  exact (Ent.a6 (Ent.d9 jY)).trans (Ent.e8 jY)
structure CatM where
 items:List ItG
 rules:List RuM
 tables:List TbM
 taxes:List TxM
structure CatV where
 items:List ItG
 iad:Option Addr
 icap:Nat
 rules:List RuV
 rad:Option Addr
 rcap:Nat
 tables:List TbV
 tad:Option Addr
 tcap:Nat
 taxes:List TxV
 xad:Option Addr
 xcap:Nat
def CatV.m (c:CatV):CatM:=⟨c.items,c.rules.map RuV.m,c.tables.map TbV.m,c.taxes.map TxV.m⟩
def CatV.cells (c:CatV):List Value:=[.slice c.iad c.items.length c.icap,.slice c.rad c.rules.length c.rcap,.slice c.tad c.tables.length c.tcap,.slice c.xad c.taxes.length c.xcap]
def catI (c:CatV):HP:=isl aN 7 c.iad c.items
def catR (c:CatV):HP:=andP (isl aA 9 c.rad c.rules) (allP ruP c.rules)
def catT (c:CatV):HP:=andP (isl aS 2 c.tad c.tables) (allP tbP c.tables)
def catX (c:CatV):HP:=andP (isl aU 2 c.xad c.taxes) (allP txP c.taxes)
def catP (c:CatV):HP:=andP (catI c) (andP (catR c) (andP (catT c) (catX c)))
theorem CX (c:CatV):PersM (catI c):=bB _ _ _ _
theorem vN (c:CatV):PersM (catR c):=(bB _ _ _ _).and (cj gA)
theorem ro (c:CatV):PersM (catT c):=(bB _ _ _ _).and (cj iO)
theorem rn (c:CatV):PersM (catX c):=(bB _ _ _ _).and (cj jY)
theorem lL (c:CatV):PersM (catP c):=(CX c).and ((vN c).and ((ro c).and (rn c)))
structure CatV.B (c:CatV):Prop where
 items:c.items.length≤64
 rules:c.rules.length≤64
 tables:c.tables.length≤64
 taxes:c.taxes.length≤64
 ru:∀ r∈c.rules,RuV.B r
 tb:∀ r∈c.tables,TbV.B r
 tx:∀ r∈c.taxes,TxV.B r
abbrev Cf:List Stp:=[.ev 0,.ev 1,.ev 3,.ev 4,.ev 6,.ev 7,.ev 9,.ev 10,.ef 2,.ef 5,.ef 8,.ef 11,.ev 12,.ef 13]
theorem gT {φ ψ:Prop} (k:ψ) (h:Hid ψ→φ:=by intro k;(with_reducible apply G.a7);first|refine G.a6 (N:=16) (id:=1) Cf mixed ah (Hid.out k)):φ:=h ⟨k⟩
theorem nh {L:List HP} (c:CatV) (hb:c.B) :
  Tri Tryz.prog 94 #[.agg c.cells.toArray] (catP c::L) (fun v L'=>∃ c',v=.agg c'.cells.toArray∧c'.m=c.m∧L' = catP c'::catP c::L):=by
 obtain ⟨items,iad,icap,rules,rad,rcap,tables,tad,tcap,taxes,xad,xcap⟩:=c
 obtain ⟨hb1,hb2,hb3,hb4,hb5,hb6,hb7⟩:=hb
 dsimp only at hb1 hb2 hb3 hb4 hb5 hb6 hb7
 refine Tri.body (args:=[.agg (CatV.cells ⟨items,iad,icap,rules,rad,rcap,tables,tad,tcap,taxes,xad,xcap⟩).toArray]) 16 en94 Tryz.func94 rfl rfl rfl (by simp) ?_
 refine G.ent ((Ent.dup (lL _).pers).trans (Ent.andE.trans (Ent.a6 (Ent.andE.trans (Ent.a6 Ent.andE))))) ?_
 simp only [catI,catR,catT,catX]
 refine G.ent (Ent.a6 (Ent.andE.trans (Ent.a6 (Ent.a6 (Ent.andE.trans (Ent.a6 (Ent.a6 Ent.andE))))))) ?_
 repeat first|refine aa ?_|intro _|refine gT ?_
 refine GPW.ef (Ef.a6 (tF iad items.length icap items rfl ab) rfl) ac ?_
 rintro _ _ ⟨iad',icap',rfl,rfl⟩
 repeat first|refine aa ?_|intro _|refine gT ?_
 refine GPW.ent (Ent.at (A:=isl aA 9 rad rules) (Ent.a6 (Ent.at (A:=allP ruP rules) (Ent.refl _)))) ?_
 refine GPW.ef (Ef.a6 (yj rad rcap rules hb2 hb5) rfl) ac ?_
 rintro _ _ ⟨rad',rcap',rules',rfl,hrules,rfl⟩
 repeat first|refine aa ?_|intro _|refine gT ?_
 refine GPW.ent (Ent.at (A:=isl aS 2 tad tables) (Ent.a6 (Ent.at (A:=allP tbP tables) (Ent.refl _)))) ?_
 refine GPW.ef (Ef.a6 (yh tad tcap tables hb3 hb6) rfl) ac ?_
 rintro _ _ ⟨tad',tcap',tables',rfl,htables,rfl⟩
 repeat first|refine aa ?_|intro _|refine gT ?_
 refine GPW.ent (Ent.at (A:=isl aU 2 xad taxes) (Ent.a6 (Ent.at (A:=allP txP taxes) (Ent.refl _)))) ?_
 refine GPW.ef (Ef.a6 (yg xad xcap taxes hb4 hb7) rfl) ac ?_
 rintro _ _ ⟨xad',xcap',taxes',rfl,htaxes,rfl⟩
 repeat first|refine aa ?_|intro _|refine gT ?_
 refine KX.a6 (by exact ResOk.cell rfl (by rfl) (ResOk.nil)) ?_ ⟨⟨items,iad',icap',rules',rad',rcap',tables',tad',tcap',taxes',xad',xcap'⟩,rfl,by simp only [CatV.m,hrules,htables,htaxes],rfl⟩
 refine (Ent.frz iad').trans ?_
 refine Ent.trans (B:=isl aN 7 iad' items::isl aA 9 rad' rules'::allP ruP rules'::isl aS 2 tad' tables'::allP tbP tables'::isl aU 2 xad' taxes'::allP txP taxes'::catP ⟨items,iad,icap,rules,rad,rcap,tables,tad,tcap,taxes,xad,xcap⟩::L) ae ?_
 refine (Ent.a6 ((Ent.d8 (bB _ _ _ _) (cj gA)).trans (Ent.a6 ((Ent.d8 (bB _ _ _ _) (cj iO)).trans (Ent.a6 (Ent.d8 (bB _ _ _ _) (cj jY))))))).trans ?_
 refine (Ent.a6 (Ent.a6 (Ent.d8 ((bB _ _ _ _).and (cj iO)) ((bB _ _ _ _).and (cj jY))))).trans ?_
 refine (Ent.a6 (Ent.d8 ((bB _ _ _ _).and (cj gA)) (((bB _ _ _ _).and (cj iO)).and ((bB _ _ _ _).and (cj jY))))).trans ?_
 exact Ent.d8 (bB _ _ _ _) (((bB _ _ _ _).and (cj gA)).and (((bB _ _ _ _).and (cj iO)).and ((bB _ _ _ _).and (cj jY))))
end
section
structure FlM where
 id:Int
 step:Int
 kind:Int
 tick:Int
 actor:Int
 frm:Int
 to:Int
 item:Int
 n:Int
 parts:List Lot
 made:List Int
 deriving Inhabited,DecidableEq
structure FlV where
 m:FlM
 pad:Option Addr
 pcap:Nat
 mad:Option Addr
 mcap:Nat
 deriving Inhabited
def bH (f:FlV):List Value:=[.int .i64 f.m.id,.int .i64 f.m.step,.int .i64 f.m.kind,.int .i64 f.m.tick,.int .i64 f.m.actor,.int .i64 f.m.frm,.int .i64 f.m.to,.int .i64 f.m.item,.int .i64 f.m.n,.slice f.pad f.m.parts.length f.pcap,.slice f.mad f.m.made.length f.mcap]
theorem iL (t:FlV):∀ u∈bH t,u.oneCell' = true:=by simp [bH,Value.oneCell']
instance:EncC bH:=⟨iL⟩
def flP (f:FlV):HP:=andP (isl av 3 f.pad f.m.parts) (isl (encZ .i64) 1 f.mad f.m.made)
theorem mJ (f:FlV):PersM (flP f):=(bB _ _ _ _).and (bB _ _ _ _)
def fx (s:StV):HP:=andP (stM s) (stP s)
theorem rB (s:StV):PersM (fx s):=(tM s).and (cj kd)
structure LedM where
 shard:Int
 cat:CatM
 stk:Int→Int→List Lot
 tot:Int→Int
 steps:List StM
 flows:List FlM
 imp:Int→List Lot
 ret:Int→List Lot
structure LedX where
 cat:CatV
 ms:Nat
 mt:Nat
 mi:Nat
 mr:Nat
 stk:List ((Int×Int)×Stk)
 tot:List (Int×Int)
 imp:List (Int×Stk)
 ret:List (Int×Stk)
 steps:List StV
 sad:Option Addr
 scap:Nat
 flows:List FlV
 fad:Option Addr
 fcap:Nat
abbrev tLed:Nat:=152
abbrev cy:Nat:=140
abbrev cz:Nat:=182
def eO {κ:Type} [DecidableEq κ] (m:List (κ×Stk)) (k:κ):Stk:=(glk m k).getD ⟨none,0,[]⟩
structure LedF (S:LedM) (x:LedX):Prop where
 cat:x.cat.m=S.cat
 catB:x.cat.B
 stk:∀ a i,(eO x.stk (a,i)).lots=S.stk a i
 full:∀ p∈x.stk,p.2.lots≠[]
 tot:∀ i,(glk x.tot i).getD 0=S.tot i
 steps:x.steps.map StV.m=S.steps
 flows:x.flows.map (·.m)=S.flows
 imp:∀ i,(eO x.imp i).lots=S.imp i
 ret:∀ i,(eO x.ret i).lots=S.ret i
structure LedM.Ok (S:LedM):Prop where
 shard:0≤S.shard∧S.shard<12
 steps:S.steps.length≤65536
 flows:S.flows.length≤64*S.steps.length
 stk:∀ a i,(S.stk a i).length≤4096∧∀ l∈S.stk a i,LotOk l
 tot:∀ i,-((S.flows.length:Int)*1099511627776)≤S.tot i∧S.tot i≤1099511627776
abbrev bT (sh:Int) (x:LedX):List Value:=[.int .i64 sh,.slice x.cat.iad x.cat.items.length x.cat.icap,.slice x.cat.rad x.cat.rules.length x.cat.rcap,.slice x.cat.tad x.cat.tables.length x.cat.tcap,.slice x.cat.xad x.cat.taxes.length x.cat.xcap,.map (some x.ms),.map (some x.mt),.slice x.sad x.steps.length x.scap,.slice x.fad x.flows.length x.fcap,.map (some x.mi),.map (some x.mr)]
abbrev ledL (b:Nat) (sh:Int) (x:LedX) (L:List HP):List HP :=
 obj b tLed (bT sh x)::gmap kvP Stk.v x.ms x.stk::gmap kvI encN x.mt x.tot::osl aK 7 cy x.sad x.scap x.steps::osl bH 11 cz x.fad x.fcap x.flows::gmap kvI Stk.v x.mi x.imp::gmap kvI Stk.v x.mr x.ret::catP x.cat::allP (fun p:(Int×Int)×Stk=>stkP p.2) x.stk::allP fx x.steps::allP flP x.flows::allP (fun p:Int×Stk=>stkP p.2) x.imp::allP (fun p:Int×Stk=>stkP p.2) x.ret::L
def ledA (b:Nat) (S:LedM) (x:LedX):List HP:=bK (LedF S x)::ledL b S.shard x []
def LedR (b:Nat) (S:LedM):HP:=hex fun x=>aX (ledA b S x)
theorem fP {b:Nat} {S:LedM} {L:List HP} (x:LedX) (h:LedF S x):Ent (ledL b S.shard x L) (LedR b S::L) :=
 Ent.e9 (f:=ledA b S) x (Ent.pure h (Ent.refl _))
def led0 (sh:Int) (c:CatM):LedM:=⟨sh,c,fun _ _=>[],fun _=>0,[],[],fun _=>[],fun _=>[]⟩
def LedM.now (S:LedM):Int:=(S.steps.getLast?.map (·.tick)).getD 0
abbrev Ce:List Stp:=[.ev 0,.ev 1,.ev 2,.ev 3,.ev 4,.ev 5,.ev 6,.ev 7,.ev 8,.ev 9,.ev 10,.ev 11,.ev 12,.ev 13]
theorem nY {φ ψ:Prop} (k:ψ) (h:Hid ψ→φ:=by intro k;(with_reducible apply G.a7);first|refine G.a6 (N:=22) (id:=3) Ce mixed ah (Hid.out k)):φ:=h ⟨k⟩
theorem sG {L R:List HP} {b:Nat} {sh:Int} {x:LedX} [hp:PickObj L b tLed (bT sh x) R] [hr:Rds L x.sad StV aK 7 x.steps] (hl:x.steps.length≤100000) :
  Tri Tryz.prog 27 #[.pointer (some ⟨b,0,none⟩)] L (fun v L'=>v=.int .i64 ((x.steps.getLast?.map (·.tick)).getD 0)∧L' = L):=by
 refine Tri.body (args:=[.pointer (some ⟨b,0,none⟩)]) 22 en27 Tryz.func27 rfl rfl rfl (by simp) ?_
 by_cases h0:x.steps.length=0
 ·repeat first|refine aa ?_|intro _|refine nY ?_
  exact KX.a6 ai (Ent.refl _) ⟨by rw [List.eq_nil_of_length_eq_zero h0];rfl,rfl⟩
 ·repeat first|refine aa ?_|intro _|refine nY ?_
  refine KX.a6 ai (Ent.refl _) ⟨?_,rfl⟩
  have e:x.steps.getLast? = some x.steps[((x.steps.length:Int) - 1).toNat]!:=by
   rw [show ((x.steps.length:Int) - 1).toNat=x.steps.length - 1 by omega,List.getLast?_eq_getElem?,getElem!_of ab,List.getElem?_eq_getElem]
  rw [e]
  rfl
theorem uY {S:LedM} {x:LedX} (h:LedF S x):(x.steps.getLast?.map (·.tick)).getD 0=S.now:=by
 unfold LedM.now
 rw [← h.steps,List.getLast?_map,Option.map_map]
 rfl
def accP (n:Int):Prop:=0≤n∧n≤1073741824
instance:DecidablePred accP:=fun n=>by unfold accP;infer_instance
theorem mC {L:List HP} (n:Int):Tri Tryz.prog 250 #[.int .i64 n] L (fun v L'=>v=.bool (dB (accP n))∧L' = L):=by
 refine Tri.body (args:=[.int .i64 n]) 9 Hn Tryz.func250 rfl rfl rfl (by simp) ?_
 by_cases h1:0≤n
 ·by_cases h2:n≤1073741824
  ·repeat first|refine aa ?_|intro _
   exact KX.a6 ai (Ent.refl _) ⟨by rw [aw h2,aw (show accP n from ⟨h1,h2⟩)];rfl,rfl⟩
  ·repeat first|refine aa ?_|intro _
   exact KX.a6 ai (Ent.refl _) ⟨by rw [an h2,an (fun h:accP n=>h2 h.2)];rfl,rfl⟩
 ·repeat first|refine aa ?_|intro _
  exact KX.a6 ai (Ent.refl _) ⟨by rw [an (fun h:accP n=>h1 h.1)];rfl,rfl⟩
def Asks (f:FuncId) (p:Int→Bool):Prop:=∀ (n:Int) (L:List HP),Tri Tryz.prog f #[.int .i64 n] L (fun v L'=>v=.bool (p n)∧L' = L)
theorem oe:Asks 287 (fun n=>dB (n=0)):=by
 intro n L
 refine Tri.body (args:=[.int .i64 n]) 5 GT Tryz.func287 rfl rfl rfl (by simp) ?_
 repeat first|refine aa ?_|intro _
 exact KX.a6 ai (Ent.refl _) ⟨rfl,rfl⟩
theorem fJ:Asks 288 (fun n=>dB (¬n=0)):=by
 intro n L
 refine Tri.body (args:=[.int .i64 n]) 5 GS Tryz.func288 rfl rfl rfl (by simp) ?_
 repeat first|refine aa ?_|intro _
 exact KX.a6 ai (Ent.refl _) ⟨rfl,rfl⟩
theorem yU:Asks 290 (fun _=>true):=by
 intro n L
 refine Tri.body (args:=[.int .i64 n]) 3 GN Tryz.func290 rfl rfl rfl (by simp) ?_
 repeat first|refine aa ?_|intro _
 exact KX.a6 ai (Ent.refl _) ⟨rfl,rfl⟩
def dv (k:Nat) (fp tp:Int→Bool) (m:MvM):Bool :=
 dB ((0≤m.item∧m.item<k)∧(1≤m.n∧m.n≤1099511627776)∧accP m.frm∧accP m.to∧m.frm≠m.to∧fp m.frm=true∧tp m.to=true∧m.parts.length=0)
abbrev Ap:List Stp:=[.ev 0,.ev 1,.ev 2,.ev 3,.ev 4,.ev 5,.ev 6,.ev 7,.ev 8,.ev 9,.ev 10,.ev 11,.ev 12,.ev 13,.ev 14,.ev 15,.ev 16,.ev 17,.ev 18,.ev 19,.ev 20,.ev 21,.ev 22,.ev 23,.ev 24,.ev 25,.ev 26,.ef 27,.ev 28,.ev 29,.ev 30,.ev 31,.ev 32,.ef 33,.ev 34,.ev 35,.ev 36,.ev 37,.ev 38,.ev 39,.ev 40,.ev 41,.ev 42,.ev 43,.ev 44,.ev 45,.ev 46,.ev 47,.ef 48,.ev 49,.ev 50,.ev 51,.ev 52,.ev 53,.ev 54,.ev 55,.ef 56,.ev 57,.ev 58]
abbrev Ao:List Stp:=[.ev 0,.ev 1,.ef 2,.ev 3,.ev 4,.ev 5,.ev 7,.ev 8,.ef 6,.ev 9,.ev 10,.ev 11,.ev 12,.ev 13,.ev 16,.ev 17,.ef 14,.ef 15,.ev 18,.ev 19,.ev 20]
theorem cY {φ ψ:Prop} (k:ψ) (h:Hid ψ→φ:=by intro k;(with_reducible apply G.a7);first|refine G.a6 (N:=93) (id:=1) Ap mixed ah (Hid.out k)|refine G.a6 (N:=93) (id:=5) Ao mixed ah (Hid.out k)):φ:=h ⟨k⟩
theorem CM {L R:List HP} {b:Nat} {sh:Int} {x:LedX} [hp:PickObj L b tLed (bT sh x) R] (ff tf wf:FuncId) (fp tp:Int→Bool) (hf:Asks ff fp) (ht:Asks tf tp) (m:MvV) (hl:x.cat.items.length≤64) :
  Tri Tryz.prog 251 #[.pointer (some ⟨b,0,none⟩),.agg (aJ m).toArray,.agg #[.func (.func ff) #[] #[],.func (.func tf) #[] #[],.bool false,.func (.func wf) #[] #[]]] L (fun v L'=>v=.bool (dv x.cat.items.length fp tp m.m)∧L' = L):=by
 obtain ⟨⟨frm,to,item,n,parts⟩,pad,pcap⟩:=m
 refine Tri.body (args:=[.pointer (some ⟨b,0,none⟩),.agg (aJ ⟨⟨frm,to,item,n,parts⟩,pad,pcap⟩).toArray,.agg #[.func (.func ff) #[] #[],.func (.func tf) #[] #[],.bool false,.func (.func wf) #[] #[]]]) 93 Hm Tryz.func251 rfl rfl rfl (by simp) ?_
 by_cases h1:0≤item
 case neg =>
  repeat first|refine aa ?_|intro _|refine cY ?_
  exact KX.a6 ai ae ⟨by unfold dv;rw [an (fun h=>h1 h.1.1)];rfl,rfl⟩
 by_cases h2:item<x.cat.items.length
 case neg =>
  repeat first|refine aa ?_|intro _|refine cY ?_
  exact KX.a6 ai ae ⟨by unfold dv;rw [an (fun h=>h2 h.1.2)];rfl,rfl⟩
 by_cases h3:1≤n
 case neg =>
  repeat first|refine aa ?_|intro _|refine cY ?_
  exact KX.a6 ai ae ⟨by unfold dv;rw [an (fun h=>h3 h.2.1.1)];rfl,rfl⟩
 by_cases h4:n≤1099511627776
 case neg =>
  repeat first|refine aa ?_|intro _|refine cY ?_
  exact KX.a6 ai ae ⟨by unfold dv;rw [an (fun h=>h4 h.2.1.2)];rfl,rfl⟩
 repeat first|refine aa ?_|intro _|refine cY ?_
 refine GPW.ef (Ef.a6 (mC frm) rfl) ac ?_
 rintro _ _ ⟨rfl,rfl⟩
 by_cases h5:accP frm
 case neg =>
  rw [an h5]
  repeat first|refine aa ?_|intro _|refine cY ?_
  exact KX.a6 ai ae ⟨by unfold dv;rw [an (fun h=>h5 h.2.2.1)];rfl,rfl⟩
 rw [aw h5]
 repeat first|refine aa ?_|intro _|refine cY ?_
 refine GPW.ef (Ef.a6 (mC to) rfl) ac ?_
 rintro _ _ ⟨rfl,rfl⟩
 by_cases h6:accP to
 case neg =>
  rw [an h6]
  repeat first|refine aa ?_|intro _|refine cY ?_
  exact KX.a6 ai ae ⟨by unfold dv;rw [an (fun h=>h6 h.2.2.2.1)];rfl,rfl⟩
 rw [aw h6]
 by_cases h7:frm=to
 case pos =>
  repeat first|refine aa ?_|intro _|refine cY ?_
  exact KX.a6 ai ae ⟨by unfold dv;rw [an (fun h=>h.2.2.2.2.1 h7)];rfl,rfl⟩
 repeat first|refine aa ?_|intro _|refine cY ?_
 refine GPW.ef (Ef.a8 rfl rfl (hf frm _)) ac ?_
 rintro _ _ ⟨rfl,rfl⟩
 cases h8:fp frm with
 | false =>
  repeat first|refine aa ?_|intro _|refine cY ?_
  exact KX.a6 ai ae ⟨by unfold dv;rw [an (fun h=>by have:=h.2.2.2.2.2.1;dsimp only at this;rw [h8] at this;cases this)];rfl,rfl⟩
 | true =>
  repeat first|refine aa ?_|intro _|refine cY ?_
  refine GPW.ef (Ef.a8 rfl rfl (ht to _)) ac ?_
  rintro _ _ ⟨rfl,rfl⟩
  cases h9:tp to with
  | false =>
   repeat first|refine aa ?_|intro _|refine cY ?_
   exact KX.a6 ai ae ⟨by unfold dv;rw [an (fun h=>by have:=h.2.2.2.2.2.2.1;dsimp only at this;rw [h9] at this;cases this)];rfl,rfl⟩
  | true =>
   repeat first|refine aa ?_|intro _|refine cY ?_
   refine KX.a6 ai ae ⟨?_,rfl⟩
   unfold dv
   by_cases h10:parts.length=0
   ·rw [aw (show ((parts.length:Nat):Int)=0 by omega),aw ⟨⟨h1,h2⟩,⟨h3,h4⟩,h5,h6,h7,h8,h9,h10⟩];rfl
   ·rw [an (show ¬((parts.length:Nat):Int)=0 by omega),an (fun h=>h10 h.2.2.2.2.2.2.2)];rfl
end
section
theorem vP {c:CatV} {L:List HP}:Ent (catP c::L) (isl aN 7 c.iad c.items::catP c::L) :=
 (Ent.dup (lL c).pers).trans (Ent.andE.trans (Ent.a6 Ent.drop))
theorem catOpenR {c:CatV} {L:List HP}:Ent (catP c::L) (isl aA 9 c.rad c.rules::allP ruP c.rules::catP c::L) :=
 (Ent.dup (lL c).pers).trans (Ent.andE.trans (Ent.drop.trans (Ent.andE.trans ((Ent.a6 Ent.drop).trans Ent.andE))))
theorem ruOpen {r:RuV} {L:List HP}:Ent (ruP r::L) (amS r.take::amS r.give::amS r.back::L):=Ent.andE.trans (Ent.a6 Ent.andE)
def jD (n:Int):Prop:=1≤n∧n≤1048576
instance:DecidablePred jD:=fun n=>by unfold jD;infer_instance
theorem vl {L:List HP} (n:Int):Tri Tryz.prog 313 #[.int .i64 n] L (fun v L'=>v=.bool (dB (jD n))∧L' = L):=by
 refine Tri.body (args:=[.int .i64 n]) 9 GC Tryz.func313 rfl rfl rfl (by simp) ?_
 by_cases h1:1≤n
 ·by_cases h2:n≤1048576
  ·repeat first|refine aa ?_|intro _
   exact KX.a6 ai (Ent.refl _) ⟨by rw [aw h2,aw (show jD n from ⟨h1,h2⟩)];rfl,rfl⟩
  ·repeat first|refine aa ?_|intro _
   exact KX.a6 ai (Ent.refl _) ⟨by rw [an h2,an (fun h:jD n=>h2 h.2)];rfl,rfl⟩
 ·repeat first|refine aa ?_|intro _
  exact KX.a6 ai (Ent.refl _) ⟨by rw [an (fun h:jD n=>h1 h.1)];rfl,rfl⟩
def gk (rule times:Int):Prop:=rule = -1∧times=0
instance (a b:Int):Decidable (gk a b):=by unfold gk;infer_instance
theorem vm {L:List HP} (b:Nat) (s:StV):Tri Tryz.prog 289 #[.pointer (some ⟨b,0,none⟩),.agg (aK s).toArray] L (fun v L'=>v=.bool (dB (gk s.rule s.times))∧L' = L):=by
 refine Tri.body (args:=[.pointer (some ⟨b,0,none⟩),.agg (aK s).toArray]) 13 GQ Tryz.func289 rfl rfl rfl (by simp) ?_
 by_cases h1:s.rule = -1
 ·by_cases h2:s.times=0
  ·repeat first|refine aa ?_|intro _
   exact KX.a6 ai ae ⟨by rw [aw h2,aw (show gk s.rule s.times from ⟨h1,h2⟩)];rfl,rfl⟩
  ·repeat first|refine aa ?_|intro _
   exact KX.a6 ai ae ⟨by rw [an h2,an (fun h:gk s.rule s.times=>h2 h.2)];rfl,rfl⟩
 ·repeat first|refine aa ?_|intro _
  exact KX.a6 ai ae ⟨by rw [an (fun h:gk s.rule s.times=>h1 h.1)];rfl,rfl⟩
def AmB (l:List (Int×Int)):Prop:=∀ a∈l,0≤a.2∧a.2≤1099511627776
structure CatM.Ok (c:CatM):Prop where
 take:∀ r∈c.rules,AmB r.take
 give:∀ r∈c.rules,AmB r.give
 back:∀ r∈c.rules,AmB r.back
def au (rule:Int):Int:=if rule < -1 then -2 - rule else rule
def nM (r:RuM) (rule:Int):List (Int×Int):=if rule < -1 then r.back else r.give
def lz (ms:List MvM) (times:Int) (a:Int×Int) (m:MvM):Prop:=m.frm=ms[0]!.frm∧m.to=0∧m.item=a.1∧m.n=a.2*times
def lG (t0 times:Int) (a:Int×Int) (m:MvM):Prop:=m.frm=0∧m.to=t0∧m.item=a.1∧m.n=a.2*times
def dX (rules:List RuM) (rule times:Int) (ms:List MvM):Prop :=
 (0≤au rule∧au rule<rules.length)∧jD times∧rules[(au rule).toNat]!.spawn=false∧¬(rule < -1∧rules[(au rule).toNat]!.chance ≥ rules[(au rule).toNat]!.of_) ∧
 ms.length=rules[(au rule).toNat]!.take.length+(nM rules[(au rule).toNat]! rule).length ∧
 (∀ i:Nat,i<rules[(au rule).toNat]!.take.length→lz ms times rules[(au rule).toNat]!.take[i]! ms[i]!) ∧
 (∀ i:Nat,i<(nM rules[(au rule).toNat]! rule).length→lG (ms[rules[(au rule).toNat]!.take.length]!).to times (nM rules[(au rule).toNat]! rule)[i]! ms[rules[(au rule).toNat]!.take.length+i]!)
noncomputable instance (a b c d):Decidable (dX a b c d):=Classical.propDecidable _
def RuV.given (r:RuV) (rule:Int):AmS:=if rule < -1 then r.back else r.give
theorem vt (r:RuV) (rule:Int):(r.given rule).l=nM r.m rule:=by unfold RuV.given nM;split<;>rfl
abbrev tRu:Nat:=67
instance:Inhabited MvM:=inferInstance
theorem qJ (ms:List MvV) {i:Nat} (h:i<ms.length):(ms.map MvV.m)[i]! = ms[i]!.m:=ek _ h
abbrev An:List Stp:=[.ev 0,.ev 1,.ev 2,.ev 3,.ev 4,.ev 5,.ev 6]
abbrev xp:List Stp:=[.ev 0,.ev 1,.ev 2,.ev 3,.ev 4,.ev 5,.ev 6,.ev 7,.ev 8,.ev 9,.ev 10,.ev 11,.ev 12,.ev 13,.ev 14,.ev 15,.ev 16,.ev 17,.ev 18,.ev 19,.ev 20,.ev 21,.ev 22,.ev 23,.ev 24,.ev 25,.ev 26,.ev 27,.ev 28,.ev 29]
abbrev xo:List Stp:=[.ev 0,.ev 1,.ev 2,.ev 3,.ev 4,.ev 5,.ev 6,.ev 7,.ev 8,.ev 9,.ev 10,.ev 11,.ev 12,.ev 13,.ev 14,.ev 15,.ev 16,.ev 17,.ev 18,.ev 19,.ev 20,.ev 21,.ev 22,.ev 23,.ev 24,.ev 25,.ev 26,.ev 27,.ev 28]
theorem aO {φ ψ:Prop} (k:ψ) (h:Hid ψ→φ:=by intro k;(with_reducible apply G.a7);first|refine G.a6 (N:=171) (id:=1) An mixed ah (Hid.out k)|refine G.a6 (N:=171) (id:=16) xp mixed ah (Hid.out k)|refine G.a6 (N:=171) (id:=24) xo mixed ah (Hid.out k)):φ:=h ⟨k⟩
theorem vn {L R:List HP} {b:Nat} {sh:Int} {x:LedX} [hp:PickObj L b tLed (bT sh x) R] (s:StV) [hrm:Rds L s.mad MvV aJ 5 s.moves] (hc:x.cat.m.Ok) (hB:x.cat.B) (hms:s.moves.length≤64) (hcap:s.moves.length≤s.mcap) (hI:I64 s.rule) :
  Tri Tryz.prog 291 #[.pointer (some ⟨b,0,none⟩),.agg (aK s).toArray] (catP x.cat::L) (fun v L'=>v=.bool (dB (dX x.cat.m.rules s.rule s.times (s.moves.map MvV.m)))∧L' = catP x.cat::L):=by
 obtain ⟨hI1,hI2⟩:=hI
 have hrl:=hB.rules
 have hlen:x.cat.m.rules.length=x.cat.rules.length:=by simp [CatV.m]
 refine Tri.body (args:=[.pointer (some ⟨b,0,none⟩),.agg (aK s).toArray]) 171 GM Tryz.func291 rfl rfl rfl (by simp) ?_
 repeat first|((fail_if_success (with_reducible refine G.c7 2 ?_));(with_reducible apply G.seq))|refine aL ?_|intro _|refine aO ?_
 rename_i b3
 refine G.a8 (α:=Unit) (fun _=>True) (fun _=>[(0,.pointer (some ⟨b,0,none⟩)),(3,.pointer (some ⟨b3,0,none⟩)),(4,.bool false),(5,.int .i64 (au s.rule)),(6,.bool (dB (s.rule < -1)))]) (fun _=>obj b3 cy (aK s)::catP x.cat::L) ?_ ?_
 ·by_cases hf:s.rule < -1
  ·repeat first|refine aa ?_|intro _|refine aO ?_
   refine ⟨(),trivial,?_,by exact ae⟩
   unfold au
   rw [if_pos hf]
   exact aj
  ·repeat first|refine aa ?_|intro _|refine aO ?_
   refine ⟨(),trivial,?_,by exact ae⟩
   unfold au
   rw [if_neg hf]
   exact aj
 rintro _ _
 by_cases h1:0≤au s.rule
 case neg =>
  repeat first|refine aa ?_|intro _|refine aO ?_
  exact KX.a6 ai ae ⟨by rw [an (fun h=>h1 h.1.1)];rfl,rfl⟩
 by_cases h2:au s.rule<x.cat.rules.length
 case neg =>
  repeat first|refine aa ?_|intro _|refine aO ?_
  exact KX.a6 ai ae ⟨by rw [an (fun h=>h2 (by have:=h.1.2;omega))];rfl,rfl⟩
 repeat first|refine aa ?_|intro _|refine aO ?_
 refine GO.ef (Ef.a6 (vl s.times) rfl) ac ?_
 rintro _ _ ⟨rfl,rfl⟩
 by_cases h3:jD s.times
 case neg =>
  rw [an h3]
  repeat first|refine aa ?_|intro _|refine aO ?_
  exact KX.a6 ai ae ⟨by rw [an (fun h=>h3 h.2.1)];rfl,rfl⟩
 rw [aw h3]
 have hix:(au s.rule).toNat<x.cat.rules.length:=ab
 have hmem:x.cat.rules[(au s.rule).toNat]!∈x.cat.rules:=ap hix
 have hrm' : x.cat.m.rules[(au s.rule).toNat]! = x.cat.rules[(au s.rule).toNat]!.m:=ek RuV.m hix
 have hmm:x.cat.rules[(au s.rule).toNat]!.m∈x.cat.m.rules:=List.mem_map_of_mem hmem
 refine GO.ent (Ent.at (A:=catP x.cat) catOpenR) ?_
 refine GO.ent (Ent.at (A:=allP ruP x.cat.rules) ((Ent.a8 (f:=ruP) hmem).trans ruOpen)) ?_
 have hru:=hB.ru _ hmem
 have hct:=hc.take _ hmm
 have hcg:=hc.give _ hmm
 have hcb:=hc.back _ hmm
 have hcr:dX x.cat.m.rules s.rule s.times (s.moves.map MvV.m)↔(x.cat.rules[(au s.rule).toNat]!.spawn=false∧¬(s.rule < -1∧x.cat.rules[(au s.rule).toNat]!.chance ≥ x.cat.rules[(au s.rule).toNat]!.of_)∧s.moves.length=x.cat.rules[(au s.rule).toNat]!.take.l.length+(x.cat.rules[(au s.rule).toNat]!.given s.rule).l.length ∧
   (∀ i:Nat,i<x.cat.rules[(au s.rule).toNat]!.take.l.length→lz (s.moves.map MvV.m) s.times x.cat.rules[(au s.rule).toNat]!.take.l[i]! (s.moves.map MvV.m)[i]!) ∧
   (∀ i:Nat,i<(x.cat.rules[(au s.rule).toNat]!.given s.rule).l.length→lG ((s.moves.map MvV.m)[x.cat.rules[(au s.rule).toNat]!.take.l.length]!).to s.times (x.cat.rules[(au s.rule).toNat]!.given s.rule).l[i]! (s.moves.map MvV.m)[x.cat.rules[(au s.rule).toNat]!.take.l.length+i]!)):=by
  unfold dX
  rw [hrm',vt,List.length_map]
  exact ⟨fun h=>h.2.2,fun h=>⟨⟨h1,ab⟩,h3,h⟩⟩
 obtain ⟨hT1,hT2⟩:=h3
 obtain ⟨hr1,hr2,hr3⟩:=hru
 simp only [AmB,RuV.m] at hct hcg hcb
 have hgl:(x.cat.rules[(au s.rule).toNat]!.given s.rule).l.length≤64:=by unfold RuV.given;split<;>assumption
 have hgb:∀ a∈(x.cat.rules[(au s.rule).toNat]!.given s.rule).l,0≤a.2∧a.2≤1099511627776:=by unfold RuV.given;split<;>assumption
 refine GO.ent (L':=amS (x.cat.rules[(au s.rule).toNat]!.given s.rule)::amS x.cat.rules[(au s.rule).toNat]!.take::isl aA 9 x.cat.rad x.cat.rules::catP x.cat::obj b3 cy (aK s)::L) ?_ ?_
 ·unfold RuV.given
  split
  ·exact ae
  ·exact ae
 repeat first|((fail_if_success (with_reducible refine G.c7 8 ?_));(with_reducible apply G.seq))|refine aL ?_|intro _|refine aO ?_
 rename_i b7
 have hg1:∀ h:s.rule < -1,x.cat.rules[(au s.rule).toNat]!.given s.rule=x.cat.rules[(au s.rule).toNat]!.back:=fun h=>if_pos h
 have hg2:∀ h:¬s.rule < -1,x.cat.rules[(au s.rule).toNat]!.given s.rule=x.cat.rules[(au s.rule).toNat]!.give:=fun h=>if_neg h
 clear hrm' hmem hmm hcg hcb hr2 hr3 hix
 generalize x.cat.rules[(au s.rule).toNat]! = r at *
 generalize r.given s.rule=gv at *
 refine G.a8 (α:=Unit) (fun _=>True) (fun _=>[(0,.pointer (some ⟨b,0,none⟩)),(3,.pointer (some ⟨b3,0,none⟩)),(4,.bool false),(6,.bool (dB (s.rule < -1))),(7,.pointer (some ⟨b7,0,none⟩)),(8,.slice gv.ad gv.l.length gv.cap)]) (fun _=>obj b7 tRu (aA r)::obj b3 cy (aK s)::amS gv::amS r.take::catP x.cat::L) ?_ ?_
 ·by_cases hf:s.rule < -1
  ·rw [hg1 hf]
   repeat first|refine aa ?_|intro _|refine aO ?_
   exact ⟨(),trivial,aj,by exact ae⟩
  ·rw [hg2 hf]
   repeat first|refine aa ?_|intro _|refine aO ?_
   exact ⟨(),trivial,aj,by exact ae⟩
 rintro _ _
 clear hg1 hg2
 cases h4:r.spawn with
 | true =>
  repeat first|refine aa ?_|intro _|refine aO ?_
  rw [h4]
  repeat first|refine aa ?_|intro _|refine aO ?_
  exact KX.a6 ai ae ⟨by rw [an (fun h=>by have:=(hcr.1 h).1;rw [h4] at this;cases this)];rfl,rfl⟩
 | false =>
 by_cases h5:s.rule < -1∧r.chance ≥ r.of_
 case pos =>
  obtain ⟨h51,h52⟩:=h5
  repeat first|refine aa ?_|intro _|refine aO ?_
  rw [h4]
  repeat first|refine aa ?_|intro _|refine aO ?_
  exact KX.a6 ai ae ⟨by rw [an (fun h=>(hcr.1 h).2.1 ⟨h51,h52⟩)];rfl,rfl⟩
 by_cases h6:s.moves.length=r.take.l.length+gv.l.length
 case neg =>
  by_cases h51:s.rule < -1
  ·have h52:¬r.chance ≥ r.of_:=fun h=>h5 ⟨h51,h⟩
   repeat first|refine aa ?_|intro _|refine aO ?_
   rw [h4]
   repeat first|refine aa ?_|intro _|refine aO ?_
   exact KX.a6 ai ae ⟨by rw [an (fun h=>h6 (hcr.1 h).2.2.1)];rfl,rfl⟩
  ·repeat first|refine aa ?_|intro _|refine aO ?_
   rw [h4]
   repeat first|refine aa ?_|intro _|refine aO ?_
   exact KX.a6 ai ae ⟨by rw [an (fun h=>h6 (hcr.1 h).2.2.1)];rfl,rfl⟩
 refine G.a8 (α:=Unit) (fun _=>True) (fun _=>[(0,.pointer (some ⟨b,0,none⟩)),(3,.pointer (some ⟨b3,0,none⟩)),(4,.bool false),(7,.pointer (some ⟨b7,0,none⟩)),(8,.slice gv.ad gv.l.length gv.cap)]) (fun _=>obj b7 tRu (aA r)::obj b3 cy (aK s)::amS gv::amS r.take::catP x.cat::L) ?_ ?_
 ·by_cases h51:s.rule < -1
  ·have h52:¬r.chance ≥ r.of_:=fun h=>h5 ⟨h51,h⟩
   repeat first|refine aa ?_|intro _|refine aO ?_
   rw [h4]
   repeat first|refine aa ?_|intro _|refine aO ?_
   exact ⟨(),trivial,aj,by exact ae⟩
  ·repeat first|refine aa ?_|intro _|refine aO ?_
   rw [h4]
   repeat first|refine aa ?_|intro _|refine aO ?_
   exact ⟨(),trivial,aj,by exact ae⟩
 rintro _ _
 have htl:r.take.l.length≤s.moves.length:=ab
 have hm0:(s.moves.map MvV.m)[0]! = (s.moves.map MvV.m)[(0:Int).toNat]!:=rfl
 repeat first|refine aa ?_|intro _|refine aO ?_
 refine G.loop (α:=Nat) (fun i=>i≤r.take.l.length∧∀ j:Nat,j<i→lz (s.moves.map MvV.m) s.times r.take.l[j]! (s.moves.map MvV.m)[j]!) (fun i=>[(0,.pointer (some ⟨b,0,none⟩)),(3,.pointer (some ⟨b3,0,none⟩)),(4,.bool false),(7,.pointer (some ⟨b7,0,none⟩)),(8,.slice gv.ad gv.l.length gv.cap),(81,.slice r.take.ad r.take.l.length r.take.cap),(82,.int .i64 (r.take.l.length:Int)),(83,.int .i64 (i:Int))]) (fun _=>obj b7 tRu (aA r)::obj b3 cy (aK s)::amS gv::amS r.take::catP x.cat::L) (fun i=>r.take.l.length - i) 0 ⟨Nat.zero_le _,fun j h=>absurd h ab⟩ aj (Ent.refl _) ?_
 rintro i ⟨hi,hdo⟩
 by_cases hlt:i<r.take.l.length
 case neg =>
  have hie:i=r.take.l.length:=ab
  subst hie
  haveI hrd:=Rds.drop hrm hcap r.take.l.length
  have hdl:(s.moves.drop r.take.l.length).length=gv.l.length:=by rw [List.length_drop];omega
  have hdg:∀ j:Nat,j<gv.l.length→(s.moves.map MvV.m)[r.take.l.length+j]! = (s.moves.drop r.take.l.length)[j]!.m:=by
   intro j hj
   rw [qJ _ ab,getElem!_of (show j<(s.moves.drop r.take.l.length).length by omega),getElem!_of (show r.take.l.length+j<s.moves.length by omega),List.getElem_drop]
  repeat first|refine aa ?_|intro _|refine aO ?_
  rw [Int.toNat_natCast,show s.moves.length - r.take.l.length=(s.moves.drop r.take.l.length).length by simp]
  generalize advA s.mad s.mcap 5 r.take.l.length=ad2 at hrd ⊢
  generalize hq:s.moves.drop r.take.l.length=ms2 at hrd hdl hdg ⊢
  generalize s.mcap - r.take.l.length=cap2
  refine G.loop (α:=Nat) (fun i=>i≤gv.l.length∧∀ j:Nat,j<i→lG ms2[0]!.m.to s.times gv.l[j]! ms2[j]!.m) (fun i=>[(0,.pointer (some ⟨b,0,none⟩)),(3,.pointer (some ⟨b3,0,none⟩)),(4,.bool false),(7,.pointer (some ⟨b7,0,none⟩)),(12,.slice ad2 ms2.length cap2),(130,.slice gv.ad gv.l.length gv.cap),(131,.int .i64 (gv.l.length:Int)),(132,.int .i64 (i:Int))]) (fun _=>obj b7 tRu (aA r)::obj b3 cy (aK s)::amS gv::amS r.take::catP x.cat::L) (fun i=>gv.l.length - i) 0 ⟨Nat.zero_le _,fun j h=>absurd h ab⟩ aj (Ent.refl _) ?_
  rintro i ⟨hi,hdo2⟩
  by_cases hlt2:i<gv.l.length
  case neg =>
   have hie:i=gv.l.length:=ab
   subst hie
   have hyes:dX x.cat.m.rules s.rule s.times (s.moves.map MvV.m):=by
    refine hcr.2 ⟨h4,h5,h6,hdo,fun j hj=>?_⟩
    rw [hdg j hj,show r.take.l.length=r.take.l.length+0 from rfl,hdg 0 ab]
    exact hdo2 j hj
   repeat first|refine aa ?_|intro _|refine aO ?_
   exact KX.a6 ai ae ⟨by rw [aw hyes];rfl,rfl⟩
  have hii:(i:Int).toNat=i:=ab
  obtain ⟨ha1,ha2⟩:=hgb _ (ap hlt2)
  have hmu:0≤gv.l[i]!.2*s.times∧gv.l[i]!.2*s.times≤1099511627776*1048576:=⟨Int.mul_nonneg ha1 ab,Int.mul_le_mul ha2 hT2 ab ab⟩
  rw [show gv.l[i]! = gv.l[(i:Int).toNat]! by rw [hii]] at hmu ha1 ha2
  obtain ⟨hmu1,hmu2⟩:=hmu
  have hno:¬lG ms2[0]!.m.to s.times gv.l[i]! ms2[i]!.m→dB (dX x.cat.m.rules s.rule s.times (s.moves.map MvV.m))=false:=fun h=>an (fun h'=>h (by
   have h2:=(hcr.1 h').2.2.2.2 i hlt2
   rw [hdg i hlt2] at h2
   have h3:=hdg 0 ab
   rw [Nat.add_zero] at h3
   rw [h3] at h2
   exact h2))
  by_cases h7:ms2[(i:Int).toNat]!.m.frm=0
  case neg =>
   repeat first|refine aa ?_|intro _|refine aO ?_
   exact KX.a6 ai ae ⟨by rw [hno (fun h=>h7 (by have:=h.1;rw [hii];exact this))];rfl,rfl⟩
  by_cases h8:ms2[(i:Int).toNat]!.m.to=ms2[(0:Int).toNat]!.m.to
  case neg =>
   repeat first|refine aa ?_|intro _|refine aO ?_
   exact KX.a6 ai ae ⟨by rw [hno (fun h=>h8 (by have:=h.2.1;rw [hii];exact this))];rfl,rfl⟩
  by_cases h9:ms2[(i:Int).toNat]!.m.item=gv.l[(i:Int).toNat]!.1
  case neg =>
   repeat first|refine aa ?_|intro _|refine aO ?_
   exact KX.a6 ai ae ⟨by rw [hno (fun h=>h9 (by have:=h.2.2.1;rw [hii];exact this))];rfl,rfl⟩
  by_cases h10:ms2[(i:Int).toNat]!.m.n=gv.l[(i:Int).toNat]!.2*s.times
  case neg =>
   repeat first|refine aa ?_|intro _|refine aO ?_
   exact KX.a6 ai ae ⟨by rw [hno (fun h=>h10 (by have:=h.2.2.2;rw [hii];exact this))];rfl,rfl⟩
  repeat first|refine aa ?_|intro _|refine aO ?_
  refine ⟨i+1,⟨ab,?_⟩,ab,?_,by exact ae⟩
  ·intro j hj
   rcases Nat.lt_or_ge j i with h|h
   ·exact hdo2 j h
   ·obtain rfl:j=i:=ab
    rw [hii] at h7 h8 h9 h10
    exact ⟨h7,h8,h9,h10⟩
  ·rw [show ((i+1:Nat):Int)=(i:Int)+1 by omega]
   exact aj
 have hii:(i:Int).toNat=i:=ab
 have hmi:(s.moves.map MvV.m)[i]! = s.moves[(i:Int).toNat]!.m:=by rw [qJ _ ab,hii]
 have hmz:(s.moves.map MvV.m)[0]! = s.moves[(0:Int).toNat]!.m:=qJ _ ab
 obtain ⟨ha1,ha2⟩:=hct _ (ap hlt)
 have hmu:0≤r.take.l[i]!.2*s.times∧r.take.l[i]!.2*s.times≤1099511627776*1048576:=⟨Int.mul_nonneg ha1 ab,Int.mul_le_mul ha2 hT2 ab ab⟩
 rw [show r.take.l[i]! = r.take.l[(i:Int).toNat]! by rw [hii]] at hmu ha1 ha2
 obtain ⟨hmu1,hmu2⟩:=hmu
 have hno:¬lz (s.moves.map MvV.m) s.times r.take.l[i]! (s.moves.map MvV.m)[i]!→dB (dX x.cat.m.rules s.rule s.times (s.moves.map MvV.m))=false:=fun h=>an (fun h'=>h ((hcr.1 h').2.2.2.1 i hlt))
 have hsz:(s.moves.map MvV.m).length=s.moves.length:=List.length_map ..
 by_cases h7:s.moves[(i:Int).toNat]!.m.frm=s.moves[(0:Int).toNat]!.m.frm
 case neg =>
  repeat first|refine aa ?_|intro _|refine aO ?_
  exact KX.a6 ai ae ⟨by rw [hno (fun h=>h7 (by have:=h.1;rw [hmi,hmz] at this;exact this))];rfl,rfl⟩
 by_cases h8:s.moves[(i:Int).toNat]!.m.to=0
 case neg =>
  repeat first|refine aa ?_|intro _|refine aO ?_
  exact KX.a6 ai ae ⟨by rw [hno (fun h=>h8 (by have:=h.2.1;rw [hmi] at this;exact this))];rfl,rfl⟩
 by_cases h9:s.moves[(i:Int).toNat]!.m.item=r.take.l[(i:Int).toNat]!.1
 case neg =>
  repeat first|refine aa ?_|intro _|refine aO ?_
  exact KX.a6 ai ae ⟨by rw [hno (fun h=>h9 (by have:=h.2.2.1;rw [hmi] at this;rw [hii] at this ⊢;exact this))];rfl,rfl⟩
 by_cases h10:s.moves[(i:Int).toNat]!.m.n=r.take.l[(i:Int).toNat]!.2*s.times
 case neg =>
  repeat first|refine aa ?_|intro _|refine aO ?_
  exact KX.a6 ai ae ⟨by rw [hno (fun h=>h10 (by have:=h.2.2.2;rw [hmi] at this;rw [hii] at this ⊢;exact this))];rfl,rfl⟩
 repeat first|refine aa ?_|intro _|refine aO ?_
 refine ⟨i+1,⟨ab,?_⟩,ab,?_,by exact ae⟩
 ·intro j hj
  rcases Nat.lt_or_ge j i with h|h
  ·exact hdo j h
  ·obtain rfl:j=i:=ab
   rw [hmi]
   rw [hii] at h7 h8 h9 h10 ⊢
   exact ⟨by rw [hmz];exact h7,h8,h9,h10⟩
 ·rw [show ((i+1:Nat):Int)=(i:Int)+1 by omega]
  exact aj
end
section
def cT (k:Int):Prop:=k=0∨k=1∨k=6∨k=2∨k=3∨k=8∨k=4
def eY (k:Int):Int→Bool:=if k=0 then (fun n=>dB (n=0)) else if k=4 then (fun _=>true) else (fun n=>dB (¬n=0))
def kTo (k:Int):Int→Bool:=if k=1∨k=6 then (fun n=>dB (n=0)) else if k=4 then (fun _=>true) else (fun n=>dB (¬n=0))
def ky (k:Int):FuncId:=if k=4 then 291 else 289
abbrev Gd (ff tf wf:FuncId):Value:=.agg #[.func (.func ff) #[] #[],.func (.func tf) #[] #[],.bool false,.func (.func wf) #[] #[]]
theorem xZ {L:List HP} (k:Int) (hk:cT k):Tri Tryz.prog 249 #[.int .i64 k] L (fun v L'=>∃ ff tf,v=.tuple #[Gd ff tf (ky k),.bool true]∧(Asks ff (eY k)∧Asks tf (kTo k))∧L' = L):=by
 rcases hk with rfl|rfl|rfl|rfl|rfl|rfl|rfl
 ·refine Tri.body (args:=[.int .i64 0]) 33 mN Tryz.func249 rfl rfl rfl (by simp) ?_
  repeat first|refine aa ?_|intro _
  exact KX.a6 (by exact ResOk.cell rfl (by rfl) (ResOk.tmp rfl (ResOk.nil))) ae ⟨_,_,rfl,⟨oe,fJ⟩,rfl⟩
 ·refine Tri.body (args:=[.int .i64 1]) 33 mN Tryz.func249 rfl rfl rfl (by simp) ?_
  repeat first|refine aa ?_|intro _
  exact KX.a6 (by exact ResOk.cell rfl (by rfl) (ResOk.tmp rfl (ResOk.nil))) ae ⟨_,_,rfl,⟨fJ,oe⟩,rfl⟩
 ·refine Tri.body (args:=[.int .i64 6]) 33 mN Tryz.func249 rfl rfl rfl (by simp) ?_
  repeat first|refine aa ?_|intro _
  exact KX.a6 (by exact ResOk.cell rfl (by rfl) (ResOk.tmp rfl (ResOk.nil))) ae ⟨_,_,rfl,⟨fJ,oe⟩,rfl⟩
 ·refine Tri.body (args:=[.int .i64 2]) 33 mN Tryz.func249 rfl rfl rfl (by simp) ?_
  repeat first|refine aa ?_|intro _
  exact KX.a6 (by exact ResOk.cell rfl (by rfl) (ResOk.tmp rfl (ResOk.nil))) ae ⟨_,_,rfl,⟨fJ,fJ⟩,rfl⟩
 ·refine Tri.body (args:=[.int .i64 3]) 33 mN Tryz.func249 rfl rfl rfl (by simp) ?_
  repeat first|refine aa ?_|intro _
  exact KX.a6 (by exact ResOk.cell rfl (by rfl) (ResOk.tmp rfl (ResOk.nil))) ae ⟨_,_,rfl,⟨fJ,fJ⟩,rfl⟩
 ·refine Tri.body (args:=[.int .i64 8]) 33 mN Tryz.func249 rfl rfl rfl (by simp) ?_
  repeat first|refine aa ?_|intro _
  exact KX.a6 (by exact ResOk.cell rfl (by rfl) (ResOk.tmp rfl (ResOk.nil))) ae ⟨_,_,rfl,⟨fJ,fJ⟩,rfl⟩
 ·refine Tri.body (args:=[.int .i64 4]) 33 mN Tryz.func249 rfl rfl rfl (by simp) ?_
  repeat first|refine aa ?_|intro _
  exact KX.a6 (by exact ResOk.cell rfl (by rfl) (ResOk.tmp rfl (ResOk.nil))) ae ⟨_,_,rfl,⟨yU,yU⟩,rfl⟩
def eU (rules:List RuM) (s:StM):Prop:=if s.kind=4 then dX rules s.rule s.times s.moves else gk s.rule s.times
noncomputable instance (a b):Decidable (eU a b):=Classical.propDecidable _
def eC (c:CatM) (now:Int) (s:StM):Prop :=
 accP s.actor∧(0≤s.tick∧s.tick≤1099511627776∧now≤s.tick)∧(1≤s.moves.length∧s.moves.length≤64) ∧
 (∀ m∈s.moves,dv c.items.length (eY s.kind) (kTo s.kind) m=true)∧eU c.rules s
noncomputable instance (a b c):Decidable (eC a b c):=Classical.propDecidable _
def xnow (x:LedX):Int:=(x.steps.getLast?.map (·.tick)).getD 0
abbrev FX:Nat:=319
abbrev Am:List Stp:=[.ev 0,.ev 1,.ev 2,.ev 3,.ev 4,.ef 5,.ev 6,.ev 7,.ev 8,.ev 9,.ev 10,.ev 11,.ev 12,.ev 13,.ev 14,.ev 15,.ev 16,.ev 17,.ev 18,.ev 19,.ev 20,.ev 21,.ef 22,.ev 23,.ev 24,.ev 25,.ev 26,.ev 27,.ev 28,.ev 29,.ev 30,.ev 31,.ev 32,.ev 33,.ev 34,.ev 35,.ev 36]
theorem cG {φ ψ:Prop} (k:ψ) (h:Hid ψ→φ:=by intro k;(with_reducible apply G.a7);first|refine G.a6 (N:=70) (id:=2) Am mixed ah (Hid.out k)):φ:=h ⟨k⟩
theorem BW {L R:List HP} {b:Nat} {sh:Int} {x:LedX} [hp:PickObj L b tLed (bT sh x) R] [hr:Rds L x.sad StV aK 7 x.steps] (s:StV) [hrm:Rds L s.mad MvV aJ 5 s.moves] (hk:cT s.kind) (hc:x.cat.m.Ok) (hB:x.cat.B) (hsl:x.steps.length≤65536) (hml:s.moves.length≤1000000) (hcap:s.moves.length≤s.mcap) (hI:I64 s.rule) :
  Tri Tryz.prog 163 #[.pointer (some ⟨b,0,none⟩),.agg (aK s).toArray] (catP x.cat::L) (fun v L'=>v=.bool (dB (eC x.cat.m (xnow x) s.m))∧L' = catP x.cat::L):=by
 have hil:=hB.items
 have hmm:s.m.moves.length=s.moves.length:=by simp [StV.m]
 refine Tri.body (args:=[.pointer (some ⟨b,0,none⟩),.agg (aK s).toArray]) 70 ID Tryz.func163 rfl rfl rfl (by simp) ?_
 repeat first|refine aa ?_|intro _|refine cG ?_
 rename_i b3
 refine GO.ef (Ef.a6 (xZ s.kind hk) rfl) ac ?_
 rintro _ _ ⟨ff,tf,rfl,⟨hff,htf⟩,rfl⟩
 repeat first|refine aa ?_|intro _|refine cG ?_
 rename_i b5
 refine GPW.ef (Ef.a6 (mC s.actor) rfl) ac ?_
 rintro _ _ ⟨rfl,rfl⟩
 by_cases h1:accP s.actor
 case neg =>
  rw [an h1]
  repeat first|refine aa ?_|intro _|refine cG ?_
  exact KX.a6 ai ae ⟨by rw [an (fun h=>h1 h.1)];rfl,rfl⟩
 rw [aw h1]
 by_cases h2:0≤s.tick
 case neg =>
  repeat first|refine aa ?_|intro _|refine cG ?_
  exact KX.a6 ai ae ⟨by rw [an (fun h=>h2 h.2.1.1)];rfl,rfl⟩
 by_cases h3:s.tick≤1099511627776
 case neg =>
  repeat first|refine aa ?_|intro _|refine cG ?_
  exact KX.a6 ai ae ⟨by rw [an (fun h=>h3 h.2.1.2.1)];rfl,rfl⟩
 repeat first|refine aa ?_|intro _|refine cG ?_
 refine GPW.ef (Ef.a6 (sG (b:=b) (sh:=sh) (x:=x) ab) rfl) ac ?_
 rintro _ _ ⟨rfl,rfl⟩
 rw [show (x.steps.getLast?.map (·.tick)).getD 0=xnow x from rfl]
 by_cases h4:xnow x≤s.tick
 case neg =>
  repeat first|refine aa ?_|intro _|refine cG ?_
  exact KX.a6 ai ae ⟨by rw [an (fun h=>h4 h.2.1.2.2)];rfl,rfl⟩
 by_cases h5:1≤s.moves.length
 case neg =>
  repeat first|refine aa ?_|intro _|refine cG ?_
  exact KX.a6 ai ae ⟨by rw [an (fun h=>h5 (by have:=h.2.2.1.1;omega))];rfl,rfl⟩
 by_cases h6:s.moves.length≤64
 case neg =>
  repeat first|refine aa ?_|intro _|refine cG ?_
  exact KX.a6 ai ae ⟨by rw [an (fun h=>h6 (by have:=h.2.2.1.2;omega))];rfl,rfl⟩
 repeat first|refine aa ?_|intro _|refine cG ?_
 refine G.loop (α:=Nat) (fun i=>i≤s.moves.length∧∀ j:Nat,j<i→dv x.cat.items.length (eY s.kind) (kTo s.kind) s.moves[j]!.m=true) (fun i=>[(0,.pointer (some ⟨b,0,none⟩)),(3,.pointer (some ⟨b3,0,none⟩)),(4,.bool false),(5,.pointer (some ⟨b5,0,none⟩)),(53,.slice s.mad s.moves.length s.mcap),(54,.int .i64 (s.moves.length:Int)),(55,.int .i64 (i:Int))]) (fun _=>obj b5 FX [.func (.func ff) #[] #[],.func (.func tf) #[] #[],.bool false,.func (.func (ky s.kind)) #[] #[]]::obj b3 cy (aK s)::catP x.cat::L) (fun i=>s.moves.length - i) 0 ⟨Nat.zero_le _,fun j h=>absurd h ab⟩ aj (Ent.refl _) ?_
 rintro i ⟨hi,hdo⟩
 by_cases hlt:i<s.moves.length
 case neg =>
  have hie:i=s.moves.length:=ab
  subst hie
  have hall:∀ m∈s.m.moves,dv x.cat.m.items.length (eY s.m.kind) (kTo s.m.kind) m=true:=by
   intro m hm
   obtain ⟨v,hv,rfl⟩:=List.mem_map.1 (show m∈s.moves.map MvV.m from hm)
   obtain ⟨j,hj,rfl⟩:=List.mem_iff_getElem.1 hv
   have:=hdo j hj
   rw [getElem!_of hj] at this
   exact this
  have hfin:dB (eC x.cat.m (xnow x) s.m)=dB (eU x.cat.m.rules s.m):=by
   by_cases hw:eU x.cat.m.rules s.m
   ·rw [aw hw,aw ⟨h1,⟨h2,h3,h4⟩,⟨ab,ab⟩,hall,hw⟩]
   ·rw [an hw,an (fun h=>hw h.2.2.2.2)]
  rw [hfin]
  repeat first|refine aa ?_|intro _|refine cG ?_
  by_cases h4k:s.kind=4
  ·have e1:ky s.kind=291:=by unfold ky;rw [if_pos h4k]
   have e2:dB (eU x.cat.m.rules s.m)=dB (dX x.cat.m.rules s.rule s.times (s.moves.map MvV.m)):=by
    have e:eU x.cat.m.rules s.m=dX x.cat.m.rules s.rule s.times (s.moves.map MvV.m):=by unfold eU;exact if_pos h4k
    by_cases hw:dX x.cat.m.rules s.rule s.times (s.moves.map MvV.m)
    ·rw [aw hw,aw (e▸hw)]
    ·rw [an hw,an (e▸hw)]
   rw [e1,e2]
   refine GO.ent (Ent.at (A:=catP x.cat) (Ent.refl _)) ?_
   refine GO.ef (Ef.a8 rfl rfl (vn (b:=b) (sh:=sh) (x:=x) s hc hB h6 hcap hI)) ac ?_
   rintro _ _ ⟨rfl,rfl⟩
   repeat first|refine aa ?_|intro _|refine cG ?_
   exact KX.a6 ai ae ⟨rfl,rfl⟩
  ·have e1:ky s.kind=289:=by unfold ky;rw [if_neg h4k]
   have e2:dB (eU x.cat.m.rules s.m)=dB (gk s.rule s.times):=by
    have e:eU x.cat.m.rules s.m=gk s.rule s.times:=by unfold eU;exact if_neg h4k
    by_cases hw:gk s.rule s.times
    ·rw [aw hw,aw (e▸hw)]
    ·rw [an hw,an (e▸hw)]
   rw [e1,e2]
   refine GO.ef (Ef.a8 rfl rfl (vm b s)) ac ?_
   rintro _ _ ⟨rfl,rfl⟩
   repeat first|refine aa ?_|intro _|refine cG ?_
   exact KX.a6 ai ae ⟨rfl,rfl⟩
 have hii:(i:Int).toNat=i:=ab
 repeat first|refine aa ?_|intro _|refine cG ?_
 rw [hii]
 refine GO.ef (Ef.a6 (CM (b:=b) (sh:=sh) (x:=x) ff tf (ky s.kind) (eY s.kind) (kTo s.kind) hff htf s.moves[i]! hil) rfl) ac ?_
 rintro _ _ ⟨rfl,rfl⟩
 cases h7:dv x.cat.items.length (eY s.kind) (kTo s.kind) s.moves[i]!.m with
 | false =>
  repeat first|refine aa ?_|intro _|refine cG ?_
  refine KX.a6 ai ae ⟨?_,rfl⟩
  rw [an]
  ·rfl
  intro h
  have h8:=h.2.2.2.1 s.moves[i]!.m (List.mem_map_of_mem (ap hlt))
  rw [show dv x.cat.m.items.length (eY s.m.kind) (kTo s.m.kind) s.moves[i]!.m=false from h7] at h8
  cases h8
 | true =>
  repeat first|refine aa ?_|intro _|refine cG ?_
  refine ⟨i+1,⟨ab,?_⟩,ab,?_,by exact ae⟩
  ·intro j hj
   rcases Nat.lt_or_ge j i with h|h
   ·exact hdo j h
   ·obtain rfl:j=i:=ab
    exact h7
  ·rw [show ((i+1:Nat):Int)=(i:Int)+1 by omega]
   exact aj
end
section
theorem pD {l:List Lot} {x:Lot} (h:∀ y∈l,LotOk y) (hx:LotW x):∀ y∈bR l x,LotOk y:=by
 intro y hy
 unfold bR at hy
 unfold LotW at hx
 split at hy
 ·exact h y hy
 rename_i h0
 split at hy
 ·rename_i h1
  obtain ⟨h1,h2⟩:=h1
  rcases List.mem_or_eq_of_mem_set hy with hy|rfl
  ·exact h y hy
  ·have h3:=lcont_iff.1 h2
   have h4:=h _ (ap (show l.length - 1<l.length by omega))
   unfold LotOk at h4 ⊢
   dsimp only
   omega
 ·rcases List.mem_append.1 hy with hy|hy
  ·exact h y hy
  ·simp at hy
   subst hy
   unfold LotOk
   omega
theorem lJ {xs:List Lot}:∀ {l:List Lot},(∀ y∈l,LotOk y)→(∀ y∈xs,LotW y)→∀ y∈xs.foldl bR l,LotOk y:=by
 induction xs with
 | nil=>intro l h _;exact h
 | cons x xs ih=>intro l h hx;exact ih (pD h (hx x (List.mem_cons_self ..))) (fun y hy=>hx y (List.mem_cons_of_mem _ hy))
theorem vF {l:List Lot} {cs:Nat→Int} (hw:∀ x∈l,LotOk x) (hc:∀ k,k<l.length→0≤cs k∧cs k≤l[k]!.2.2):(∀ x∈divF l cs l.length,LotOk x)∧∀ x∈divR l cs l.length,LotOk x:=by
 refine ⟨lJ (by simp) ?_,lJ (by simp) ?_⟩
 all_goals
  intro y hy
  obtain ⟨k,hk,rfl⟩:=List.mem_map.1 hy
  have hk:=List.mem_range.1 hk
 ·exact (pc_w hk (fun x h=>(hw x h).w) (hc k hk)).1
 ·exact (pc_w hk (fun x h=>(hw x h).w) (hc k hk)).2
abbrev Aj:List Stp:=[.ev 0,.ev 2,.ef 1,.ef 3,.ev 4]
theorem gS {φ ψ:Prop} (k:ψ) (h:Hid ψ→φ:=by intro k;first|((with_reducible apply GO.a6);refine GO.c6 kZ Tryz.func299 rfl rfl rfl rfl (by simp) ac (Hid.out k))|((with_reducible apply GPW.a6);refine GPW.c6 kZ Tryz.func299 rfl rfl rfl rfl (by simp) ac (Hid.out k))|((with_reducible apply GO.a6);refine GO.a7 rfl kZ Tryz.func299 rfl rfl rfl rfl (by simp) ac (Hid.out k))|((with_reducible apply GPW.a6);refine GPW.a8 rfl kZ Tryz.func299 rfl rfl rfl rfl (by simp) ac (Hid.out k))|((with_reducible apply KX.c7);first|refine KX.in0 (.inl rfl) (Hid.out k)|refine KX.in0 (.inr rfl) (Hid.out k)|refine KX.in1 (.inl rfl) rfl (Hid.out k)|refine KX.in2 (.inl rfl) rfl rfl (Hid.out k)|refine KX.in3 (.inl rfl) rfl rfl rfl (Hid.out k)|refine KX.inC (.inl rfl) rfl (by rfl) (Hid.out k)|refine KX.c6 (.inl rfl) rfl (by rfl) rfl (Hid.out k))):φ:=h ⟨k⟩
theorem gR {φ ψ:Prop} (k:ψ) (h:Hid ψ→φ:=by intro k;(with_reducible apply G.a7);first|refine G.a6 (N:=17) (id:=3) Aj mixed ah (Hid.out k)):φ:=h ⟨k⟩
theorem CD {L:List HP} (ad:Option Addr) (cap:Nat) (xs:List Lot) (x:Lot) (hl:xs.length≤4096) (hxs:∀ l∈xs,LotOk l) (hx:LotOk x) :
  Tri Tryz.prog 256 #[.slice ad xs.length cap,.agg (av x).toArray] (isl av 3 ad xs::L) (fun v L'=>∃ ad' cap',v=.slice ad' (bR xs x).length cap'∧L' = osl av 3 tLot ad' cap' (bR xs x)::isl av 3 ad xs::L):=by
 have hx0:=hx
 obtain ⟨o1,o2,o3,o4,o5⟩:=hx0
 refine Tri.body (args:=[.slice ad xs.length cap,.agg (av x).toArray]) 17 Hh Tryz.func256 rfl rfl rfl (by simp) ?_
 repeat first|refine aa ?_|intro _|refine gR ?_|refine gS ?_
 refine GO.ef (Ef.a6 (ie ad xs.length cap xs rfl hl hxs) rfl) ac ?_
 rintro _ _ ⟨rfl,rfl⟩
 repeat first|refine aa ?_|intro _|refine gR ?_|refine gS ?_
 rw [aw o5]
 repeat first|refine aa ?_|intro _|refine gR ?_|refine gS ?_
 refine GPW.ef (Ef.a6 (jV ad xs.length cap xs rfl ab) rfl) ac ?_
 rintro _ _ ⟨ad1,cap1,rfl,rfl⟩
 repeat first|refine aa ?_|intro _|refine gR ?_|refine gS ?_
 refine GPW.ef (Ef.a6 (nL ad1 cap1 xs x ab (fun y h=>(hxs y h).w) hx.w) rfl) ac ?_
 rintro _ _ ⟨ad2,cap2,rfl,rfl⟩
 repeat first|refine aa ?_|intro _|refine gR ?_|refine gS ?_
 exact KX.a6 ai ae ⟨ad2,cap2,rfl,rfl⟩
def shQ (l:List Lot) (n:Int) (k:Nat):Int:=n*l[k]!.2.2 / lsum l
def shR (l:List Lot) (n:Int) (k:Nat):Int:=n*l[k]!.2.2 % lsum l
def Eq (l:List Lot) (n:Int) (k:Nat):Nat:=((List.range l.length).filter (fun j=>decide (shR l n k<shR l n j∨(shR l n j=shR l n k∧j<k)))).length
def dD (l:List Lot) (n:Int):Int:=n - (List.range l.length).foldl (fun s k=>s+shQ l n k) 0
def shC (l:List Lot) (n:Int) (k:Nat):Int:=shQ l n k+(if (Eq l n k:Int)<dD l n then 1 else 0)
def tkC (mixed:Bool) (l:List Lot) (n:Int):Nat→Int:=if mixed=true∧0<n then shC l n else fuC l n
def fC (mixed:Bool) (l:List Lot) (n:Int):List Lot:=divF l (tkC mixed l n) l.length
def eX (mixed:Bool) (l:List Lot) (n:Int):List Lot:=divR l (tkC mixed l n) l.length
structure TakeC (mixed:Bool):Prop where
 bd:∀ (l:List Lot) (n:Int),(∀ x∈l,LotOk x)→0≤n→n≤lsum l→∀ k,k<l.length→0≤tkC mixed l n k∧tkC mixed l n k≤l[k]!.2.2
 tri:∀ (L:List HP) (ad:Option Addr) (c:Nat) (xs:List Lot) (n:Int),xs.length≤4096→(∀ l∈xs,LotOk l)→0≤n→n≤1099511627776 →
  Tri Tryz.prog 316 #[.slice ad xs.length c,.int .i64 n,.bool mixed] (isl av 3 ad xs::L) (fun v L' =>
   (lsum xs<n∧v=.tuple #[.slice none 0 0,.slice none 0 0,.int .i64 10]∧L' = isl av 3 ad xs::L) ∨
   (n≤lsum xs∧∃ ad1 c1 ad2 c2,v=.tuple #[.slice ad1 (fC mixed xs n).length c1,.slice ad2 (eX mixed xs n).length c2,.int .i64 0]∧L' = osl av 3 tLot ad1 c1 (fC mixed xs n)::osl av 3 tLot ad2 c2 (eX mixed xs n)::isl av 3 ad xs::L))
theorem wd:TakeC false where
 bd:=fun l n hl h0 _ k hk=>lI h0 (fun x h=>(hl x h).w) k hk
 tri:=fun _ ad c xs n h1 h2 h3 h4=>zg ad c xs n false rfl h1 h2 h3 h4
structure ChX where
 cs:Nat
 ct:Nat
 ci:Nat
 cr:Nat
 stk:List ((Int×Int)×Stk)
 tot:List (Int×Int)
 flows:List FlV
 fad:Option Addr
 fcap:Nat
 sunk:List Int
 kad:Option Addr
 kcap:Nat
abbrev tCh:Nat:=200
abbrev dA (b:Nat) (s:StV) (z:ChX):List Value:=[.pointer (some ⟨b,0,none⟩),.int .i64 s.id,.int .i64 s.kind,.int .i64 s.actor,.int .i64 s.tick,.int .i64 s.rule,.int .i64 s.times,.slice s.mad s.moves.length s.mcap,.map (some z.cs),.map (some z.ct),.map (some z.ci),.map (some z.cr),.slice z.fad z.flows.length z.fcap,.slice z.kad z.sunk.length z.kcap]
abbrev chL (b bc:Nat) (s:StV) (z:ChX) (L:List HP):List HP :=
 obj bc tCh (dA b s z)::gmap kvP Stk.v z.cs z.stk::gmap kvI encN z.ct z.tot::gmap kvI Stk.v z.ci []::gmap kvI Stk.v z.cr []::osl bH 11 cz z.fad z.fcap z.flows::osl (encZ .i64) 1 tInt z.kad z.kcap z.sunk::allP (fun p:(Int×Int)×Stk=>stkP p.2) z.stk::allP flP z.flows::L
def curS (x:LedX) (z:ChX) (k:Int×Int):Stk:=(glk z.stk k).getD (eO x.stk k)
theorem yC {κ:Type} [DecidableEq κ] (m:List (κ×Stk)) (k:κ):((@List.lookup _ _ instBEqOfDecidableEq k m).map Stk.v).getD (.slice none 0 0)=(eO m k).v:=by
 unfold eO glk
 cases @List.lookup _ _ instBEqOfDecidableEq k m<;>rfl
theorem sg {κ:Type} [DecidableEq κ] {m:List (κ×Stk)} (k:κ) {L:List HP}:Ent (allP (fun p:κ×Stk=>stkP p.2) m::L) (stkP (eO m k)::allP (fun p:κ×Stk=>stkP p.2) m::L):=by
 unfold eO
 cases h:glk m k with
 | none=>exact Ent.c8 av 3 none
 | some s=>exact Ent.a8 (f:=fun p:κ×Stk=>stkP p.2) (x:=(k,s)) (gw h)
abbrev Al:List Stp:=[.ev 0,.ev 1,.ev 2,.ev 3,.ev 4,.ev 5,.ev 6,.ev 7,.ev 8,.ev 9,.ev 10]
abbrev Ak:List Stp:=[.ev 0,.ev 1,.ev 2,.ev 3,.ev 4,.ev 5,.ev 6,.ev 7,.ev 8,.ev 9]
theorem ja {φ ψ:Prop} (k:ψ) (h:Hid ψ→φ:=by intro k;(with_reducible apply G.a7);first|refine G.a6 (N:=33) (id:=2) Al mixed ah (Hid.out k)|refine G.a6 (N:=33) (id:=5) Ak mixed ah (Hid.out k)):φ:=h ⟨k⟩
theorem oa {L R1 R2 R3 R4:List HP} {b bc:Nat} {sh:Int} {x:LedX} {s:StV} {z:ChX} [hp1:PickObj L b tLed (bT sh x) R1] [hp2:PickObj L bc tCh (dA b s z) R2] [hp3:PickG L z.cs (Int×Int) Stk kvP Stk.v z.stk R3] [hp4:PickG L x.ms (Int×Int) Stk kvP Stk.v x.stk R4] (a i:Int) :
  Tri Tryz.prog 255 #[.pointer (some ⟨bc,0,none⟩),.int .i64 a,.int .i64 i] L (fun v L'=>v=(curS x z (a,i)).v∧L' = L):=by
 refine Tri.body (args:=[.pointer (some ⟨bc,0,none⟩),.int .i64 a,.int .i64 i]) 33 Hi Tryz.func255 rfl rfl rfl (by simp) ?_
 repeat first|refine aa ?_|intro _|refine ja ?_
 refine GPW.evL (Ev.t6 rfl rfl) ac ?_
 cases h:@List.lookup _ _ instBEqOfDecidableEq (a,i) z.stk with
 | some k =>
  simp only [Option.map_some,Option.getD_some,Option.isSome_some]
  repeat first|refine aa ?_|intro _|refine ja ?_
  refine KX.a6 ai ae ⟨?_,rfl⟩
  unfold curS glk
  rw [h]
  rfl
 | none =>
  simp only [Option.map_none,Option.getD_none,Option.isSome_none]
  repeat first|refine aa ?_|intro _|refine ja ?_
  refine GPW.evL (Ev.c7 rfl rfl) ac ?_
  rw [yC]
  repeat first|refine aa ?_|intro _|refine ja ?_
  refine KX.a6 ai ae ⟨?_,rfl⟩
  unfold curS glk
  rw [h]
  rfl
end
section
theorem vI {x:LedX} {z:ChX} (k:Int×Int) {L:List HP}:Ent (allP (fun p:(Int×Int)×Stk=>stkP p.2) z.stk::allP (fun p:(Int×Int)×Stk=>stkP p.2) x.stk::L) (stkP (curS x z k)::allP (fun p:(Int×Int)×Stk=>stkP p.2) z.stk::allP (fun p:(Int×Int)×Stk=>stkP p.2) x.stk::L):=by
 unfold curS
 cases h:glk z.stk k with
 | none=>exact (Ent.a6 (sg k)).trans Ent.swap
 | some s=>exact Ent.a8 (f:=fun p:(Int×Int)×Stk=>stkP p.2) (x:=(k,s)) (gw h)
theorem oR {m:List ((Int×Int)×Stk)} {k:Int×Int} {s:Stk} {L:List HP}:Ent (stkP s::allP (fun p:(Int×Int)×Stk=>stkP p.2) m::L) (allP (fun p:(Int×Int)×Stk=>stkP p.2) (gins m k s)::L) :=
 (Ent.c9 (f:=fun p:(Int×Int)×Stk=>stkP p.2) (fun p=>ue p.2) (x:=(k,s)) (l:=m)).trans (Ent.g6 (l':=gins m k s) mG)
theorem vH {x:LedX} {z:ChX} {k q:Int×Int} {s:Stk}:curS x { z with stk:=gins z.stk k s } q=if q=k then s else curS x z q:=by
 unfold curS glk
 dsimp only
 have h:=fc (m:=z.stk) (k:=k) (q:=q) (a:=s)
 by_cases hq:q=k
 ·rw [if_pos hq] at h ⊢
  exact (congrArg (fun o:Option Stk=>o.getD (eO x.stk q)) h)
 ·rw [if_neg hq] at h ⊢
  exact (congrArg (fun o:Option Stk=>o.getD (eO x.stk q)) h)
structure WdOk (x:LedX) (z:ChX) (m:MvM):Prop where
 item:0≤m.item∧m.item<x.cat.items.length
 n:0≤m.n∧m.n≤1099511627776
 parts:m.parts.length=0
 len:(curS x z (m.frm,m.item)).lots.length≤4096
 lots:∀ l∈(curS x z (m.frm,m.item)).lots,LotOk l
def cm (x:LedX) (i:Int):Bool:=x.cat.items[i.toNat]!.mixed
abbrev Ai:List Stp:=[.ev 0,.ev 1,.ev 2,.ev 3,.ev 4,.ev 5,.ev 6,.ev 7,.ev 8,.ev 9,.ev 10,.ev 11,.ev 12,.ev 13,.ev 14,.ev 15,.ef 16,.ev 17,.ev 18,.ev 19,.ev 20,.ev 21,.ev 22,.ev 23]
abbrev Ah:List Stp:=[.ev 0,.ev 1,.ev 2,.ev 3,.ev 4,.ev 5,.ef 6]
abbrev xn:List Stp:=[.ev 0,.ev 1,.ev 2,.ev 3,.ev 4,.ev 5,.ev 6,.ev 7,.ef 8,.ef 9]
theorem gQ {φ ψ:Prop} (k:ψ) (h:Hid ψ→φ:=by intro k;(with_reducible apply G.a7);first|refine G.a6 (N:=73) (id:=4) Ai mixed ah (Hid.out k)|refine G.a6 (N:=73) (id:=7) Ah mixed ah (Hid.out k)|refine G.a6 (N:=73) (id:=11) xn mixed ah (Hid.out k)):φ:=h ⟨k⟩
theorem tj {L:List HP} (b bc:Nat) (sh:Int) (x:LedX) (s:StV) (z:ChX) (m:MvV) (h:WdOk x z m.m) (hT:TakeC (cm x m.m.item)) (hil:x.cat.items.length≤64) :
  Tri Tryz.prog 296 #[.pointer (some ⟨bc,0,none⟩),.agg (aJ m).toArray] (chL b bc s z (ledL b sh x L)) (fun v L' =>
   (lsum (curS x z (m.m.frm,m.m.item)).lots<m.m.n∧v=.tuple #[.slice none 0 0,.int .i64 10]∧L' = chL b bc s z (ledL b sh x L)) ∨
   (m.m.n≤lsum (curS x z (m.m.frm,m.m.item)).lots∧∃ pad pcap sk,v=.tuple #[.slice pad (fC (cm x m.m.item) (curS x z (m.m.frm,m.m.item)).lots m.m.n).length pcap,.int .i64 0]∧sk.lots=eX (cm x m.m.item) (curS x z (m.m.frm,m.m.item)).lots m.m.n ∧
    L' = isl av 3 pad (fC (cm x m.m.item) (curS x z (m.m.frm,m.m.item)).lots m.m.n)::chL b bc s { z with stk:=gins z.stk (m.m.frm,m.m.item) sk } (ledL b sh x L))):=by
 obtain ⟨⟨hi1,hi2⟩,⟨hn1,hn2⟩,hp,hl,hok⟩:=h
 refine Tri.body (args:=[.pointer (some ⟨bc,0,none⟩),.agg (aJ m).toArray]) 73 GJ Tryz.func296 rfl rfl rfl (by simp) ?_
 refine G.ent (L':=stkP (curS x z (m.m.frm,m.m.item))::isl aN 7 x.cat.iad x.cat.items::chL b bc s z (ledL b sh x L)) ?_ ?_
 ·simp only [chL,ledL]
  refine (Ent.at (A:=catP x.cat) vP).trans ?_
  refine (Ent.at (A:=allP (fun p:(Int×Int)×Stk=>stkP p.2) z.stk) (Ent.refl _)).trans ?_
  refine (Ent.a6 (Ent.at (A:=allP (fun p:(Int×Int)×Stk=>stkP p.2) x.stk) (Ent.refl _))).trans ?_
  refine (vI (m.m.frm,m.m.item)).trans ?_
  exact ae
 simp only [chL,ledL]
 repeat first|refine aa ?_|intro _|refine gQ ?_
 refine GO.ef (Ef.a6 (oa (b:=b) (sh:=sh) (x:=x) (s:=s) (z:=z) m.m.frm m.m.item) rfl) ac ?_
 rintro _ _ ⟨rfl,rfl⟩
 generalize hsk:curS x z (m.m.frm,m.m.item)=sk at *
 simp only [Stk.v]
 repeat first|refine aa ?_|intro _|refine gQ ?_
 refine GPW.ent (Ent.at (A:=stkP sk) (Ent.refl _)) ?_
 refine GPW.ef (Ef.a6 (hT.tri _ sk.ad sk.cap sk.lots m.m.n hl hok hn1 hn2) rfl) ac ?_
 rintro _ _ (⟨h1,rfl,rfl⟩|⟨h1,ad1,c1,ad2,c2,rfl,rfl⟩)
 ·repeat first|refine aa ?_|intro _|refine gQ ?_
  exact KX.a6 ai ae (.inl ⟨h1,rfl,rfl⟩)
 ·repeat first|refine aa ?_|intro _|refine gQ ?_
  refine GPW.efu (Ef.e9 (enc:=Stk.v) (e:=(⟨ad2,c2,eX (cm x m.m.item) sk.lots m.m.n⟩:Stk)) rfl rfl rfl rfl) ?_
  rintro _ _ rfl
  repeat first|refine aa ?_|intro _|refine gQ ?_
  refine KX.a6 ai ?_ (.inr ⟨h1,ad1,c1,⟨ad2,c2,eX (cm x m.m.item) sk.lots m.m.n⟩,rfl,rfl,rfl⟩)
  refine (Ent.frz ad1).trans ((Ent.frz ad2).trans ?_)
  refine (Ent.at (A:=allP (fun p:(Int×Int)×Stk=>stkP p.2) z.stk) (Ent.refl _)).trans ?_
  refine (Ent.at (A:=stkP ⟨ad2,c2,eX (cm x m.m.item) sk.lots m.m.n⟩) (oR (k:=(m.m.frm,m.m.item)))).trans ?_
  exact ae
end
section
structure Wk where
 stk:Int→Int→List Lot
 tot:Int→Int
 flows:List FlM
 sunk:List Int
def upd2 {α:Type} (f:Int→Int→α) (a i:Int) (v:α):Int→Int→α:=fun a' i'=>if a' = a∧i' = i then v else f a' i'
def bG (mix:Int→Bool) (W:Wk) (m:MvM):Int→Int→List Lot:=if m.frm=0 then W.stk else upd2 W.stk m.frm m.item (eX (mix m.item) (W.stk m.frm m.item) m.n)
def ez (mix:Int→Bool) (W:Wk) (m:MvM):List Lot:=if m.frm=0 then [] else fC (mix m.item) (W.stk m.frm m.item) m.n
def bY (W:Wk) (m:MvM):Int:=W.tot m.item+(if m.frm=0 then m.n else 0) - (if m.to=0 then m.n else 0)
def ee (sh:Int) (nf:Nat) (W:Wk):Int:=sh*4294967296+nf+W.flows.length
def cO (s:StM) (W:Wk) (m:MvM):List Int:=if m.frm=0∧(s.kind=4∨s.kind=10) then W.sunk else []
def dK (sh:Int) (nf:Nat) (mix:Int→Bool) (s:StM) (W:Wk) (m:MvM):FlM:=⟨ee sh nf W,s.id,s.kind,s.tick,s.actor,m.frm,m.to,m.item,m.n,ez mix W m,cO s W m⟩
def bh (sh:Int) (nf:Nat) (mix:Int→Bool) (s:StM) (W:Wk) (m:MvM):Int×Wk :=
 if m.frm≠0∧lsum (W.stk m.frm m.item)<m.n then (10,W)
 else if bY W m>1099511627776 then (4,W)
 else if m.to=0 then (0,⟨bG mix W m,upd W.tot m.item (bY W m),W.flows++[dK sh nf mix s W m],W.sunk++[ee sh nf W]⟩)
 else if 4096≤(bG mix W m m.to m.item).length then (4,W)
 else (0,⟨upd2 (bG mix W m) m.to m.item (bR (bG mix W m m.to m.item) (ee sh nf W,0,m.n)),upd W.tot m.item (bY W m),W.flows++[dK sh nf mix s W m],W.sunk⟩)
structure WkF (x:LedX) (z:ChX) (W:Wk):Prop where
 stk:∀ a i,(curS x z (a,i)).lots=W.stk a i
 tot:∀ i,(glk z.tot i).getD ((glk x.tot i).getD 0)=W.tot i
 flows:z.flows.map FlV.m=W.flows
 sunk:z.sunk=W.sunk
structure Wk.Ok (nf:Nat) (W:Wk):Prop where
 stk:∀ a i,(W.stk a i).length≤4096∧∀ l∈W.stk a i,LotOk l
 tot:∀ i,-(((nf:Int)+W.flows.length)*1099511627776)≤W.tot i∧W.tot i≤1099511627776
 sunk:W.sunk.length≤W.flows.length
theorem iu {L:List HP} (ad:Option Addr) (n c:Nat) (xs:List Int) [Rds L ad Int (encZ .i64) 1 xs] (hn:n=xs.length) (hb:n≤1000000) :
  Tri Tryz.prog 64 #[.slice ad n c] L (fun v L'=>∃ ad' cap',v=.slice ad' xs.length cap'∧L' = osl (encZ .i64) 1 tInt ad' cap' xs::L):=by
 refine Tri.body (args:=[.slice ad n c]) 8 en64 Tryz.func64 rfl rfl rfl (by simp) ?_
 repeat' first|refine aa ?_|intro _|with_reducible refine CB.dec (fun _=>?_) (fun _=>?_)|with_reducible refine GB.dec (fun _=>?_) (fun _=>?_)|with_reducible refine CB.bool (fun _=>?_) (fun _=>?_)|with_reducible refine GB.bool (fun _=>?_) (fun _=>?_)
 ·have h:ad=none:=by assumption
  subst h
  refine KX.d9 (.inl rfl) (jf (L:=L) (xs:=xs)) ?_
  intro hx
  subst hx
  refine KX.a6 ai (Ent.a7 (encZ .i64) 1 tInt) ⟨_,_,rfl,rfl⟩
 ·refine GO.ent (Ent.c6 (enc:=encZ .i64) (sz:=1) (xs:=[]) rfl rfl (by simp) (by simp)) ?_
  refine GO.ef (Ef.c6 rfl rfl rfl rfl hn (fun e _=>by simp [encZ,Value.oneCell']) (by simp;omega) (by simp;omega)) ac ?_
  rintro _ _ ⟨ad',cap',rfl,rfl⟩
  repeat first|refine aa ?_|intro _
  refine KX.a6 ai (Ent.refl _) ⟨ad',cap',rfl,rfl⟩
structure MvFit (x:LedX) (m:MvM):Prop where
 item:0≤m.item∧m.item<x.cat.items.length
 n:1≤m.n∧m.n≤1099511627776
 frm:accP m.frm
 to:accP m.to
 ne:m.frm≠m.to
 parts:m.parts.length=0
abbrev xE:List Stp:=[.ev 0,.ev 1,.ev 3,.ev 4,.ef 2,.ef 5,.ev 6,.ev 7]
abbrev xD:List Stp:=[.ev 0,.ev 1,.ev 3,.ev 4,.ef 2,.ef 5,.ev 6,.ev 7]
theorem im {φ ψ:Prop} (k:ψ) (h:Hid ψ→φ:=by intro k;(with_reducible apply G.a7);first|refine G.a6 (N:=35) (id:=5) xE mixed ah (Hid.out k)|refine G.a6 (N:=35) (id:=7) xD mixed ah (Hid.out k)):φ:=h ⟨k⟩
theorem yy {L:List HP} (b bc:Nat) (sh:Int) (x:LedX) (s:StV) (z:ChX) (m:MvV) (W:Wk) (hW:WkF x z W) (hO:W.Ok x.flows.length) (h:MvFit x m.m) (hk:cT s.kind) (hT:∀ mx,TakeC mx) (hil:x.cat.items.length≤64) :
  Tri Tryz.prog 254 #[.pointer (some ⟨bc,0,none⟩),.agg (aJ m).toArray] (chL b bc s z (ledL b sh x L)) (fun v L' =>
   ((m.m.frm≠0∧lsum (W.stk m.m.frm m.m.item)<m.m.n)∧v=.tuple #[.slice none 0 0,.int .i64 10]∧L' = chL b bc s z (ledL b sh x L)) ∨
   (¬(m.m.frm≠0∧lsum (W.stk m.m.frm m.m.item)<m.m.n)∧∃ pad pcap stk',v=.tuple #[.slice pad (ez (cm x) W m.m).length pcap,.int .i64 0]∧(∀ a i,(curS x { z with stk:=stk' } (a,i)).lots=bG (cm x) W m.m a i) ∧
    L' = isl av 3 pad (ez (cm x) W m.m)::chL b bc s { z with stk:=stk' } (ledL b sh x L))):=by
 have hk5:s.kind≠5:=by unfold cT at hk;omega
 have hk9:s.kind≠9:=by unfold cT at hk;omega
 have hcur:=hW.stk m.m.frm m.m.item
 refine Tri.body (args:=[.pointer (some ⟨bc,0,none⟩),.agg (aJ m).toArray]) 35 Hj Tryz.func254 rfl rfl rfl (by simp) ?_
 by_cases h0:m.m.frm=0
 ·simp only [chL,ledL]
  repeat first|refine aa ?_|intro _|refine im ?_
  refine KX.a6 ai ?_ (.inr ⟨fun h=>h.1 h0,none,0,z.stk,?_,?_,rfl⟩)
  ·rw [show ez (cm x) W m.m=[] by unfold ez;rw [if_pos h0]]
   refine Ent.trans ?_ (Ent.c8 av 3 none)
   exact ae
  ·rw [show ez (cm x) W m.m=[] by unfold ez;rw [if_pos h0]]
   rfl
  ·intro a i
   unfold bG
   rw [if_pos h0]
   exact hW.stk a i
 ·repeat first|refine aa ?_|intro _|refine im ?_
  refine GO.ent Ent.drop ?_
  refine GO.ef (Ef.a6 (tj b bc sh x s z m ⟨h.item,⟨by have:=h.n;omega,h.n.2⟩,h.parts,by rw [hcur];exact (hO.stk _ _).1,by rw [hcur];exact (hO.stk _ _).2⟩ (hT _) hil) rfl) ac ?_
  rw [hcur]
  rintro _ _ (⟨h1,rfl,rfl⟩|⟨h1,pad,pcap,sk,rfl,hsk,rfl⟩)
  ·repeat first|refine aa ?_|intro _|refine im ?_
   exact KX.a6 ai (Ent.refl _) (.inl ⟨⟨h0,h1⟩,rfl,rfl⟩)
  ·have e:ez (cm x) W m.m=fC (cm x m.m.item) (W.stk m.m.frm m.m.item) m.m.n:=by unfold ez;rw [if_neg h0]
   rw [e]
   repeat first|refine aa ?_|intro _|refine im ?_
   refine KX.a6 ai (Ent.refl _) (.inr ⟨fun h=>by omega,pad,pcap,gins z.stk (m.m.frm,m.m.item) sk,rfl,?_,rfl⟩)
   intro a i
   rw [vH]
   unfold bG upd2
   rw [if_neg h0]
   by_cases hq:a=m.m.frm∧i=m.m.item
   ·obtain ⟨rfl,rfl⟩:=hq
    rw [if_pos rfl,if_pos ⟨rfl,rfl⟩,hsk]
   ·rw [if_neg (fun h=>hq (by simpa using h)),if_neg hq]
    exact hW.stk a i
end
section
theorem FU (m:List (Int×Int)) (k d:Int):((@List.lookup _ _ instBEqOfDecidableEq k m).map encN).getD (.int .i64 d)=.int .i64 ((glk m k).getD d):=by
 unfold glk
 cases @List.lookup _ _ instBEqOfDecidableEq k m<;>rfl
abbrev flV (f:FlM) (pad:Option Addr) (pcap:Nat) (mad:Option Addr) (mcap:Nat):FlV:=⟨f,pad,pcap,mad,mcap⟩
abbrev xC:List Stp:=[.ev 0,.ev 1,.ev 2,.ev 3,.ev 4,.ev 5,.ev 6,.ev 7,.ev 8,.ev 9,.ev 10,.ev 11]
abbrev xB:List Stp:=[.ev 0,.ev 1,.ev 2,.ev 3,.ev 4,.ev 5,.ev 6,.ev 7,.ev 8,.ev 9,.ev 10]
abbrev uM:List Stp:=[.ev 0,.ev 1,.ev 2,.ev 3,.ev 4,.ev 5,.ev 6,.ef 7]
abbrev uL:List Stp:=[.ev 0,.ev 1,.ev 2,.ev 3,.ev 4,.ev 5,.ev 6,.ev 7,.ev 8,.ev 9,.ev 10,.ev 11,.ev 12,.ev 13,.ev 14,.ev 15,.ev 16,.ev 17,.ev 18,.ev 19,.ev 20,.ev 21,.ev 22,.ev 23,.ev 24,.ev 25,.ev 26,.ev 27,.ev 28,.ev 29,.ev 30,.ev 31,.ev 32,.ev 33,.ev 34,.ev 35,.ev 36,.ev 37,.ev 38,.ev 39,.ev 40,.ev 41,.ev 42,.ev 43,.ev 44,.ev 45,.ev 46,.ev 47,.ev 48,.ev 49,.ev 50,.ev 51,.ev 52,.ef 53,.ef 54]
abbrev uJ:List Stp:=[.ev 0,.ev 1,.ev 2,.ev 3,.ev 4,.ev 5,.ef 6,.ef 7,.ev 8,.ev 9,.ef 10]
abbrev uI:List Stp:=[.ev 0,.ev 1,.ev 2,.ev 3,.ev 4,.ev 5,.ev 6,.ef 7,.ef 8,.ev 9,.ev 10,.ef 11]
abbrev uH:List Stp:=[.ev 0,.ev 1,.ev 2,.ev 3,.ev 4,.ev 5,.ev 6,.ev 7,.ev 8,.ev 9,.ev 10,.ev 11,.ev 12,.ev 13,.ev 14,.ef 15,.ef 16]
theorem aY {φ ψ:Prop} (k:ψ) (h:Hid ψ→φ:=by intro k;(with_reducible apply G.a7);first|refine G.a6 (N:=186) (id:=4) xC mixed ah (Hid.out k)|refine G.a6 (N:=186) (id:=6) xB mixed ah (Hid.out k)|refine G.a6 (N:=186) (id:=13) uM mixed ah (Hid.out k)|refine G.a6 (N:=186) (id:=14) uL mixed ah (Hid.out k)|refine G.a6 (N:=186) (id:=17) uJ mixed ah (Hid.out k)|refine G.a6 (N:=186) (id:=19) uI mixed ah (Hid.out k)|refine G.a6 (N:=186) (id:=24) uH mixed ah (Hid.out k)):φ:=h ⟨k⟩
theorem Cv {L:List HP} (b bc:Nat) (sh:Int) (x:LedX) (s:StV) (z:ChX) (m:MvV) (W:Wk) (hW:WkF x z W) (hO:W.Ok x.flows.length) (h:MvFit x m.m) (hk:cT s.kind) (hT:∀ mx,TakeC mx) (hil:x.cat.items.length≤64) (hsh:0≤sh∧sh<12) (hxf:x.flows.length≤4194304) (hWf:W.flows.length<64) :
  Tri Tryz.prog 165 #[.pointer (some ⟨bc,0,none⟩),.agg (aJ m).toArray] (chL b bc s z (ledL b sh x L)) (fun v L'=>∃ z',v=.int .i64 (bh sh x.flows.length (cm x) s.m W m.m).1 ∧
   ((bh sh x.flows.length (cm x) s.m W m.m).1=0→WkF x z' (bh sh x.flows.length (cm x) s.m W m.m).2)∧L' = chL b bc s z' (ledL b sh x L)):=by
 obtain ⟨hs1,hs2⟩:=hsh
 obtain ⟨hn1,hn2⟩:=h.n
 have hne:=h.ne
 obtain ⟨ht1,ht2⟩:=hO.tot m.m.item
 have hzl:z.flows.length=W.flows.length:=by rw [← hW.flows];simp
 have hkl:z.sunk.length≤64:=by rw [hW.sunk];have:=hO.sunk;omega
 refine Tri.body (args:=[.pointer (some ⟨bc,0,none⟩),.agg (aJ m).toArray]) 186 IB Tryz.func165 rfl rfl rfl (by simp) ?_
 repeat first|refine aa ?_|intro _|refine aY ?_
 rename_i b3
 refine GO.ent (L':=chL b bc s z (ledL b sh x (obj b3 tMv (aJ m)::L))) (by simp only [chL,ledL];exact ae) ?_
 refine GO.ef (Ef.a6 (yy b bc sh x s z m W hW hO h hk hT hil) rfl) ac ?_
 rintro _ _ (⟨h1,rfl,rfl⟩|⟨h1,pad,pcap,stk',rfl,hstk,rfl⟩)
 ·have e:bh sh x.flows.length (cm x) s.m W m.m=(10,W):=by unfold bh;rw [if_pos h1]
  rw [e]
  repeat first|refine aa ?_|intro _|refine aY ?_
  exact KX.a6 ai (by simp only [chL,ledL];exact ae) ⟨z,rfl,(fun h=>absurd (show (_:Int)=0 from h) (by dsimp only;omega)),rfl⟩
 have hid:ee sh x.flows.length W=sh*4294967296+(x.flows.length:Int)+(z.flows.length:Int):=by unfold ee;rw [hzl]
 have hmv:bh sh x.flows.length (cm x) s.m W m.m=if bY W m.m>1099511627776 then (4,W)
   else if m.m.to=0 then (0,⟨bG (cm x) W m.m,upd W.tot m.m.item (bY W m.m),W.flows++[dK sh x.flows.length (cm x) s.m W m.m],W.sunk++[ee sh x.flows.length W]⟩)
   else if 4096≤(bG (cm x) W m.m m.m.to m.m.item).length then (4,W)
   else (0,⟨upd2 (bG (cm x) W m.m) m.m.to m.m.item (bR (bG (cm x) W m.m m.m.to m.m.item) (ee sh x.flows.length W,0,m.m.n)),upd W.tot m.m.item (bY W m.m),W.flows++[dK sh x.flows.length (cm x) s.m W m.m],W.sunk⟩):=by unfold bh;rw [if_neg h1]
 have hnf:dK sh x.flows.length (cm x) s.m W m.m=⟨ee sh x.flows.length W,s.id,s.kind,s.tick,s.actor,m.m.frm,m.m.to,m.m.item,m.m.n,ez (cm x) W m.m,cO s.m W m.m⟩:=rfl
 rw [hmv]
 generalize dK sh x.flows.length (cm x) s.m W m.m=fl at *
 generalize ez (cm x) W m.m=pts at *
 have hto:bY W m.m=W.tot m.m.item+(if m.m.frm=0 then m.m.n else 0) - (if m.m.to=0 then m.m.n else 0):=rfl
 have htt:=hW.tot m.m.item
 simp only [chL,ledL,dA]
 repeat first|refine aa ?_|intro _|refine aY ?_
 refine GPW.evL (Ev.t6 rfl rfl) ac ?_
 repeat first|((fail_if_success (with_reducible refine G.c7 5 ?_));(with_reducible apply G.seq))|refine aL ?_|intro _|refine aY ?_
 refine G.a8 (α:=Unit) (fun _=>True) (fun _=>[(0,.pointer (some ⟨bc,0,none⟩)),(3,.pointer (some ⟨b3,0,none⟩)),(4,.int .i64 0),(5,.slice pad pts.length pcap),(7,.int .i64 (W.tot m.m.item))]) (fun _=>isl av 3 pad pts::chL b bc s { z with stk:=stk' } (ledL b sh x (obj b3 tMv (aJ m)::L))) ?_ ?_
 ·cases hl:@List.lookup _ _ instBEqOfDecidableEq m.m.item z.tot with
  | some t =>
   simp only [Option.map_some,Option.getD_some,Option.isSome_some]
   have e:W.tot m.m.item=t:=by rw [← htt];unfold glk;rw [hl];rfl
   rw [e]
   repeat first|refine aa ?_|intro _|refine aY ?_
   exact ⟨(),trivial,aj,Ent.refl _⟩
  | none =>
   simp only [Option.map_none,Option.getD_none,Option.isSome_none]
   have e:W.tot m.m.item=(glk x.tot m.m.item).getD 0:=by rw [← htt];unfold glk;rw [hl];rfl
   rw [e]
   repeat first|refine aa ?_|intro _|refine aY ?_
   refine GPW.evL (Ev.c7 rfl rfl) ac ?_
   rw [FU]
   repeat first|refine aa ?_|intro _|refine aY ?_
   exact ⟨(),trivial,aj,Ent.refl _⟩
 rintro _ _
 simp only [chL,ledL,dA]
 refine G.a8 (α:=Unit) (fun _=>True) (fun _=>[(0,.pointer (some ⟨bc,0,none⟩)),(3,.pointer (some ⟨b3,0,none⟩)),(4,.int .i64 0),(5,.slice pad pts.length pcap),(7,.int .i64 (W.tot m.m.item+(if m.m.frm=0 then m.m.n else 0)))]) (fun _=>isl av 3 pad pts::chL b bc s { z with stk:=stk' } (ledL b sh x (obj b3 tMv (aJ m)::L))) ?_ ?_
 ·by_cases h0:m.m.frm=0
  ·rw [if_pos h0]
   repeat first|refine aa ?_|intro _|refine aY ?_
   exact ⟨(),trivial,aj,Ent.refl _⟩
  ·rw [if_neg h0,Int.add_zero]
   repeat first|refine aa ?_|intro _|refine aY ?_
   exact ⟨(),trivial,aj,Ent.refl _⟩
 rintro _ _
 simp only [chL,ledL,dA]
 have hb1 : -9223372036854775808+1099511627776≤W.tot m.m.item+(if m.m.frm=0 then m.m.n else 0)∧W.tot m.m.item+(if m.m.frm=0 then m.m.n else 0)≤2199023255552:=by split<;>omega
 obtain ⟨hb1,hb2⟩:=hb1
 refine G.a8 (α:=Unit) (fun _=>True) (fun _=>[(0,.pointer (some ⟨bc,0,none⟩)),(3,.pointer (some ⟨b3,0,none⟩)),(4,.int .i64 0),(5,.slice pad pts.length pcap),(7,.int .i64 (bY W m.m))]) (fun _=>isl av 3 pad pts::chL b bc s { z with stk:=stk' } (ledL b sh x (obj b3 tMv (aJ m)::L))) ?_ ?_
 ·rw [hto]
  generalize W.tot m.m.item+(if m.m.frm=0 then m.m.n else 0)=t1 at *
  by_cases h0:m.m.to=0
  ·rw [if_pos h0]
   repeat first|refine aa ?_|intro _|refine aY ?_
   exact ⟨(),trivial,aj,Ent.refl _⟩
  ·rw [if_neg h0,Int.sub_zero]
   repeat first|refine aa ?_|intro _|refine aY ?_
   exact ⟨(),trivial,aj,Ent.refl _⟩
 rintro _ _
 simp only [chL,ledL,dA]
 by_cases hbig:bY W m.m>1099511627776
 ·rw [if_pos hbig]
  repeat first|refine aa ?_|intro _|refine aY ?_
  exact KX.a6 ai ae ⟨{ z with stk:=stk' },rfl,(fun h=>absurd (show (_:Int)=0 from h) (by dsimp only;omega)),rfl⟩
 rw [if_neg hbig]
 clear hto hb1 hb2
 repeat first|refine aa ?_|intro _|refine aY ?_
 refine GPW.efu (Ef.e9 (enc:=encN) (e:=bY W m.m) rfl rfl rfl rfl) ?_
 rintro _ _ rfl
 repeat first|((fail_if_success (with_reducible refine G.c7 15 ?_));(with_reducible apply G.seq))|refine aL ?_|intro _|refine aY ?_
 rename_i b9
 have hcell:∀ (mad:Option Addr) (mcap:Nat),bH (flV fl pad pcap mad mcap)=[.int .i64 (sh*4294967296+(x.flows.length:Int)+(z.flows.length:Int)),.int .i64 s.id,.int .i64 s.kind,.int .i64 s.tick,.int .i64 s.actor,.int .i64 m.m.frm,.int .i64 m.m.to,.int .i64 m.m.item,.int .i64 m.m.n,.slice pad pts.length pcap,.slice mad (cO s.m W m.m).length mcap]:=by
  intro mad mcap
  rw [hnf,hid]
  rfl
 refine G.a8 (α:=Option Addr×Nat) (fun _=>True) (fun _=>[(0,.pointer (some ⟨bc,0,none⟩)),(3,.pointer (some ⟨b3,0,none⟩)),(4,.int .i64 0),(9,.pointer (some ⟨b9,0,none⟩))]) (fun g=>obj b9 cz (bH (flV fl pad pcap g.1 g.2))::isl (encZ .i64) 1 g.1 (cO s.m W m.m)::isl av 3 pad pts::chL b bc s { z with stk:=stk',tot:=gins z.tot m.m.item (bY W m.m) } (ledL b sh x (obj b3 tMv (aJ m)::L))) ?_ ?_
 ·by_cases hmd:m.m.frm=0∧s.kind=4
  ·obtain ⟨hmd1,hmd2⟩:=hmd
   have e:cO s.m W m.m=z.sunk:=by unfold cO;rw [if_pos ⟨hmd1,.inl hmd2⟩,hW.sunk]
   repeat first|refine aa ?_|intro _|refine aY ?_
   refine GO.ef (Ef.a6 (iu z.kad z.sunk.length z.kcap z.sunk rfl ab) rfl) ac ?_
   rintro _ _ ⟨mad,mcap,rfl,rfl⟩
   repeat first|refine aa ?_|intro _|refine aY ?_
   refine ⟨(mad,mcap),trivial,aj,?_⟩
   rw [hcell,e]
   refine (Ent.frz mad).trans ?_
   exact ae
  ·have hk10:¬s.kind=10:=by unfold cT at hk;omega
   have e:cO s.m W m.m=[]:=by
    unfold cO
    exact if_neg (fun h=>by
     obtain ⟨h3,h4⟩:=h
     rcases h4 with h4|h4
     ·exact hmd ⟨h3,h4⟩
     ·exact hk10 h4)
   by_cases h0:m.m.frm=0
   ·have h04:¬s.kind=4:=fun h=>hmd ⟨h0,h⟩
    repeat first|refine aa ?_|intro _|refine aY ?_
    refine ⟨(none,0),trivial,aj,?_⟩
    rw [hcell,e]
    refine Ent.trans ?_ (Ent.a6 (Ent.c8 (encZ .i64) 1 none))
    exact ae
   ·repeat first|refine aa ?_|intro _|refine aY ?_
    refine ⟨(none,0),trivial,aj,?_⟩
    rw [hcell,e]
    refine Ent.trans ?_ (Ent.a6 (Ent.c8 (encZ .i64) 1 none))
    exact ae
 rintro ⟨mad,mcap⟩ _
 simp only [chL,ledL,dA]
 repeat first|refine aa ?_|intro _|refine aY ?_
 refine GPW.ef (Ef.a7 (enc:=bH) (e:=flV fl pad pcap mad mcap) rfl rfl rfl rfl rfl (by rfl) (iL _) ab ab) ac ?_
 rintro _ _ ⟨fad2,fcap2,rfl,rfl⟩
 repeat first|((fail_if_success (with_reducible refine G.c7 18 ?_));(with_reducible apply G.seq))|refine aL ?_|intro _|refine aY ?_
 have hflid:fl.id=ee sh x.flows.length W:=by rw [hnf]
 have hfln:fl.n=m.m.n:=by rw [hnf]
 have hflm:fl.made=cO s.m W m.m:=by rw [hnf]
 have hflp:fl.parts=pts:=by rw [hnf]
 refine G.ent (L':=obj b9 cz (bH (flV fl pad pcap mad mcap))::chL b bc s { z with stk:=stk',tot:=gins z.tot m.m.item (bY W m.m),flows:=z.flows++[flV fl pad pcap mad mcap],fad:=fad2,fcap:=fcap2 } (ledL b sh x (obj b3 tMv (aJ m)::L))) ?_ ?_
 ·simp only [chL,ledL,dA]
  refine (Ent.at (A:=isl (encZ .i64) 1 mad (cO s.m W m.m)) (Ent.refl _)).trans ?_
  refine (Ent.at (A:=isl av 3 pad pts) (Ent.refl _)).trans ?_
  rw [← hflp,← hflm]
  refine (Ent.d8 (bB _ _ _ _) (bB _ _ _ _)).trans ?_
  refine (Ent.at (A:=allP flP z.flows) (Ent.refl _)).trans ?_
  refine ((Ent.a6 (Ent.d9 (f:=flP) (x:=flV fl pad pcap mad mcap) mJ)).trans (Ent.e8 mJ)).trans ?_
  exact ae
 have hWT:∀ i,(glk (gins z.tot m.m.item (bY W m.m)) i).getD ((glk x.tot i).getD 0)=upd W.tot m.m.item (bY W m.m) i:=by
  intro i
  unfold glk upd
  have hq:=fc (m:=z.tot) (k:=m.m.item) (q:=i) (a:=bY W m.m)
  refine (congrArg (fun o:Option Int=>o.getD ((glk x.tot i).getD 0)) hq).trans ?_
  by_cases hi:i=m.m.item
  ·rw [if_pos hi,if_pos hi];rfl
  ·rw [if_neg hi,if_neg hi];exact hW.tot i
 have hWL:(z.flows++[flV fl pad pcap mad mcap]).map FlV.m=W.flows++[fl]:=by rw [List.map_append,hW.flows];rfl
 simp only [chL,ledL,dA]
 by_cases h0:m.m.to=0
 ·rw [if_pos h0]
  repeat first|refine aa ?_|intro _|refine aY ?_
  refine GPW.ef (Ef.a7 (enc:=encZ .i64) (e:=(flV fl pad pcap mad mcap).m.id) rfl rfl rfl rfl rfl (by rfl) (by simp [encZ,Value.oneCell']) ab ab) ac ?_
  rintro _ _ ⟨kad2,kcap2,rfl,rfl⟩
  repeat first|refine aa ?_|intro _|refine aY ?_
  refine KX.a6 ai ?_ ⟨{ z with stk:=stk',tot:=gins z.tot m.m.item (bY W m.m),flows:=z.flows++[flV fl pad pcap mad mcap],fad:=fad2,fcap:=fcap2,sunk:=z.sunk++[fl.id],kad:=kad2,kcap:=kcap2 },rfl,fun _=>⟨hstk,hWT,hWL,?_⟩,rfl⟩
  ·simp only [chL,ledL,dA]
   exact ae
  ·show z.sunk++[fl.id]=W.sunk++[ee sh x.flows.length W]
   rw [hW.sunk,hflid]
 rw [if_neg h0]
 repeat first|refine aa ?_|intro _|refine aY ?_
 have hcs:∀ q,curS x { z with stk:=stk',tot:=gins z.tot m.m.item (bY W m.m),flows:=z.flows++[flV fl pad pcap mad mcap],fad:=fad2,fcap:=fcap2 } q=curS x { z with stk:=stk' } q:=fun _=>rfl
 refine GO.ent (L':=stkP (curS x { z with stk:=stk' } (m.m.to,m.m.item))::obj b9 cz (bH (flV fl pad pcap mad mcap))::chL b bc s { z with stk:=stk',tot:=gins z.tot m.m.item (bY W m.m),flows:=z.flows++[flV fl pad pcap mad mcap],fad:=fad2,fcap:=fcap2 } (ledL b sh x (obj b3 tMv (aJ m)::L))) ?_ ?_
 ·simp only [chL,ledL,dA]
  refine (Ent.at (A:=allP (fun p:(Int×Int)×Stk=>stkP p.2) stk') (Ent.refl _)).trans ?_
  refine (Ent.a6 (Ent.at (A:=allP (fun p:(Int×Int)×Stk=>stkP p.2) x.stk) (Ent.refl _))).trans ?_
  refine (vI (x:=x) (z:={ z with stk:=stk' }) (m.m.to,m.m.item)).trans ?_
  exact ae
 simp only [chL,ledL]
 refine GO.ef (Ef.a6 (oa (b:=b) (sh:=sh) (x:=x) (s:=s) (z:={ z with stk:=stk',tot:=gins z.tot m.m.item (bY W m.m),flows:=z.flows++[flV fl pad pcap mad mcap],fad:=fad2,fcap:=fcap2 }) m.m.to m.m.item) rfl) ac ?_
 rintro _ _ ⟨rfl,rfl⟩
 rw [hcs]
 have hcl:=hstk m.m.to m.m.item
 have hok:∀ a i,((bG (cm x) W m.m a i).length≤4096∧∀ l∈bG (cm x) W m.m a i,LotOk l):=by
  intro a i
  unfold bG
  split
  ·exact hO.stk a i
  ·rename_i hf0
   unfold upd2
   split
   ·have hsum:m.m.n≤lsum (W.stk m.m.frm m.m.item):=by
     rcases Int.lt_or_le (lsum (W.stk m.m.frm m.m.item)) m.m.n with hlt|hle
     ·exact absurd ⟨hf0,hlt⟩ h1
     ·exact hle
    obtain ⟨o1,o2⟩:=hO.stk m.m.frm m.m.item
    exact ⟨Nat.le_trans (hZ _ _ _).2 o1,(vF o2 ((hT _).bd _ _ o2 ab hsum)).2⟩
   ·exact hO.stk a i
 obtain ⟨hk1,hk2⟩:=hok m.m.to m.m.item
 rw [← hcl] at hk1 hk2 ⊢
 generalize hsk:curS x { z with stk:=stk' } (m.m.to,m.m.item)=sk at *
 simp only [Stk.v,dA]
 by_cases hbl:4096≤sk.lots.length
 ·rw [if_pos hbl]
  repeat first|refine aa ?_|intro _|refine aY ?_
  refine KX.a6 ai ?_ ⟨{ z with stk:=stk',tot:=gins z.tot m.m.item (bY W m.m),flows:=z.flows++[flV fl pad pcap mad mcap],fad:=fad2,fcap:=fcap2 },rfl,(fun h=>absurd (show (_:Int)=0 from h) (by dsimp only;omega)),rfl⟩
  exact ae
 rw [if_neg hbl]
 repeat first|refine aa ?_|intro _|refine aY ?_
 refine GPW.ent (Ent.at (A:=stkP sk) (Ent.refl _)) ?_
 have hlot:LotOk ((flV fl pad pcap mad mcap).m.id,0,(flV fl pad pcap mad mcap).m.n):=by
  show LotOk (fl.id,0,fl.n)
  rw [hflid,hfln,hid]
  unfold LotOk
  dsimp only
  omega
 refine GPW.ef (Ef.a6 (CD sk.ad sk.cap sk.lots ((flV fl pad pcap mad mcap).m.id,0,(flV fl pad pcap mad mcap).m.n) hk1 hk2 hlot) rfl) ac ?_
 rintro _ _ ⟨ad2,cap2,rfl,rfl⟩
 repeat first|refine aa ?_|intro _|refine aY ?_
 refine GPW.efu (Ef.e9 (enc:=Stk.v) (e:=(⟨ad2,cap2,bR sk.lots (fl.id,0,fl.n)⟩:Stk)) rfl rfl rfl rfl) ?_
 rintro _ _ rfl
 repeat first|refine aa ?_|intro _|refine aY ?_
 refine KX.a6 ai ?_ ⟨{ z with stk:=gins stk' (m.m.to,m.m.item) ⟨ad2,cap2,bR sk.lots (fl.id,0,fl.n)⟩,tot:=gins z.tot m.m.item (bY W m.m),flows:=z.flows++[flV fl pad pcap mad mcap],fad:=fad2,fcap:=fcap2 },rfl,fun _=>⟨?_,hWT,hWL,hW.sunk⟩,rfl⟩
 ·simp only [chL,ledL,dA]
  refine (Ent.frz ad2).trans ?_
  refine (Ent.at (A:=allP (fun p:(Int×Int)×Stk=>stkP p.2) stk') (Ent.refl _)).trans ?_
  refine (Ent.at (A:=stkP ⟨ad2,cap2,bR sk.lots (fl.id,0,fl.n)⟩) (oR (k:=(m.m.to,m.m.item)))).trans ?_
  exact ae
 ·intro a i
  show (curS x { ({ z with stk:=stk' }:ChX) with stk:=gins ({ z with stk:=stk' }:ChX).stk (m.m.to,m.m.item) ⟨ad2,cap2,bR sk.lots (fl.id,0,fl.n)⟩ } (a,i)).lots=_
  rw [vH]
  dsimp only
  unfold upd2
  by_cases hq:a=m.m.to∧i=m.m.item
  ·obtain ⟨rfl,rfl⟩:=hq
   rw [if_pos rfl,if_pos ⟨rfl,rfl⟩]
   dsimp only
   rw [hflid,hfln]
  ·rw [if_neg (fun h=>hq (by simpa using h)),if_neg hq]
   exact hstk a i
end
section
def bL (sh:Int) (nf:Nat) (mix:Int→Bool) (s:StM):Wk→List MvM→Int×Wk
 | W,[]=>(0,W)
 | W,m::ms=>if (bh sh nf mix s W m).1=0 then bL sh nf mix s (bh sh nf mix s W m).2 ms else ((bh sh nf mix s W m).1,W)
theorem qc {mix:Int→Bool} {W:Wk} {m:MvM} {nf:Nat} (hO:W.Ok nf) (hT:∀ mx,TakeC mx) (hn:1≤m.n) (h1:¬(m.frm≠0∧lsum (W.stk m.frm m.item)<m.n)) :
  ∀ a i,((bG mix W m a i).length≤4096∧∀ l∈bG mix W m a i,LotOk l):=by
 intro a i
 unfold bG
 split
 ·exact hO.stk a i
 ·rename_i hf0
  unfold upd2
  split
  ·have hsum:m.n≤lsum (W.stk m.frm m.item):=by
    rcases Int.lt_or_le (lsum (W.stk m.frm m.item)) m.n with hlt|hle
    ·exact absurd ⟨hf0,hlt⟩ h1
    ·exact hle
   obtain ⟨o1,o2⟩:=hO.stk m.frm m.item
   exact ⟨Nat.le_trans (hZ _ _ _).2 o1,(vF o2 ((hT _).bd _ _ o2 ab hsum)).2⟩
  ·exact hO.stk a i
theorem iv {sh:Int} {nf:Nat} {mix:Int→Bool} {s:StM} {W:Wk} {m:MvM} (hO:W.Ok nf) (hT:∀ mx,TakeC mx) (hn:1≤m.n∧m.n≤1099511627776) (hsh:0≤sh) (he:(bh sh nf mix s W m).1=0) :
  (bh sh nf mix s W m).2.Ok nf∧(bh sh nf mix s W m).2.flows.length=W.flows.length+1:=by
 obtain ⟨hn1,hn2⟩:=hn
 unfold bh at he ⊢
 by_cases h1:m.frm≠0∧lsum (W.stk m.frm m.item)<m.n
 ·rw [if_pos h1] at he;exact absurd (show (10:Int)=0 from he) ab
 rw [if_neg h1] at he ⊢
 by_cases h2:bY W m>1099511627776
 ·rw [if_pos h2] at he;exact absurd (show (4:Int)=0 from he) ab
 rw [if_neg h2] at he ⊢
 have hst:=qc (mix:=mix) hO hT hn1 h1
 have htot:∀ i,-(((nf:Int)+(W.flows.length+1:Nat))*1099511627776)≤upd W.tot m.item (bY W m) i∧upd W.tot m.item (bY W m) i≤1099511627776:=by
  intro i
  unfold upd
  split
  ·obtain ⟨o1,o2⟩:=hO.tot m.item
   refine ⟨?_,ab⟩
   unfold bY
   split<;>split<;>omega
  ·obtain ⟨o1,o2⟩:=hO.tot i
   omega
 by_cases h3:m.to=0
 ·rw [if_pos h3] at he ⊢
  refine ⟨⟨hst,?_,?_⟩,by simp⟩
  ·intro i
   rw [show (W.flows++[dK sh nf mix s W m]).length=W.flows.length+1 by simp]
   exact htot i
  ·have:=hO.sunk
   simp only [List.length_append,List.length_cons,List.length_nil]
   omega
 rw [if_neg h3] at he ⊢
 by_cases h4:4096≤(bG mix W m m.to m.item).length
 ·rw [if_pos h4] at he;exact absurd (show (4:Int)=0 from he) ab
 rw [if_neg h4] at he ⊢
 refine ⟨⟨?_,?_,?_⟩,by simp⟩
 ·intro a i
  dsimp only
  unfold upd2
  split
  ·refine ⟨Nat.le_trans (nF _ _) ab,pD (hst m.to m.item).2 ?_⟩
   unfold LotW ee
   dsimp only
   omega
  ·exact hst a i
 ·intro i
  rw [show (W.flows++[dK sh nf mix s W m]).length=W.flows.length+1 by simp]
  exact htot i
 ·have:=hO.sunk
  simp only [List.length_append,List.length_cons,List.length_nil]
  omega
def StM.at (s:StM) (id:Int):StM:={ s with id:=id }
def StV.at (s:StV) (id:Int):StV:={ s with id:=id }
def wk0 (S:LedM):Wk:=⟨S.stk,S.tot,[],[]⟩
theorem km {S:LedM} (h:S.Ok):(wk0 S).Ok S.flows.length:=⟨h.stk,fun i=>by have:=h.tot i;simpa [wk0] using this,by simp [wk0]⟩
structure StIn (s:StV):Prop where
 kind:cT s.kind
 len:s.moves.length≤1000000
 cap:s.moves.length≤s.mcap
 rule:I64 s.rule
 parts:∀ m∈s.moves,m.m.parts.length≤1000000
def aC (S:LedM):Int:=S.shard*4294967296+(S.steps.length:Int)
def bP (c:CatM) (i:Int):Bool:=c.items[i.toNat]!.mixed
noncomputable def tryM (S:LedM) (s:StM):Int×Wk :=
 if 65536≤S.steps.length then (4,wk0 S)
 else if ¬eC S.cat S.now s then (1,wk0 S)
 else bL S.shard S.flows.length (bP S.cat) (s.at (aC S)) (wk0 S) s.moves
abbrev xA:List Stp:=[.ev 0,.ev 1,.ev 2,.ev 3,.ev 4,.ev 5,.ev 6,.ev 7,.ev 8,.ev 9,.ev 10,.ev 11,.ev 12,.ev 13,.ev 14,.ef 15]
theorem cR {φ ψ:Prop} (k:ψ) (h:Hid ψ→φ:=by intro k;(with_reducible apply G.a7);first|refine G.a6 (N:=62) (id:=6) xA mixed ah (Hid.out k)):φ:=h ⟨k⟩
theorem Dm {L:List HP} (b:Nat) (S:LedM) (hS:S.Ok) (hc:S.cat.Ok) (x:LedX) (hF:LedF S x) (s:StV) (hs:StIn s) (hT:∀ mx,TakeC mx) :
  Tri Tryz.prog 111 #[.pointer (some ⟨b,0,none⟩),.agg (aK s).toArray] (ledL b S.shard x (stM s::stP s::L)) (fun v L' =>
   ((tryM S s.m).1≠0∧v=.tuple #[.pointer none,.int .i64 (tryM S s.m).1]∧L' = ledL b S.shard x (stM s::stP s::L)) ∨
   ((tryM S s.m).1=0∧∃ bc s' z,v=.tuple #[.pointer (some ⟨bc,0,none⟩),.int .i64 0]∧(s'.m=s.m.at (aC S)∧WkF x z (tryM S s.m).2)∧L' = chL b bc s' z (ledL b S.shard x (stM s'::stP s'::stM s::stP s::L)))):=by
 obtain ⟨hsh1,hsh2⟩:=hS.shard
 have hsl:=hS.steps
 have hfl:=hS.flows
 have hxs:x.steps.length=S.steps.length:=by rw [← hF.steps];simp
 have hxf:x.flows.length=S.flows.length:=by rw [← hF.flows];simp
 have hB:=hF.catB
 have hml:=hs.len
 have hcm:=hF.cat
 have hil:=hB.items
 have hnow:xnow x=S.now:=uY hF
 have hmix:cm x=bP S.cat:=by funext i;unfold cm bP;rw [← hcm];rfl
 refine Tri.body (args:=[.pointer (some ⟨b,0,none⟩),.agg (aK s).toArray]) 62 Jv Tryz.func111 rfl rfl rfl (by simp) ?_
 simp only [ledL,bT]
 by_cases h1:65536≤S.steps.length
 ·have e:tryM S s.m=(4,wk0 S):=by unfold tryM;rw [if_pos h1]
  rw [e]
  repeat first|refine aa ?_|intro _|refine cR ?_
  exact KX.a6 ai ae (.inl ⟨by dsimp only;omega,rfl,rfl⟩)
 repeat first|refine aa ?_|intro _|refine cR ?_
 refine GO.ent (Ent.at (A:=catP x.cat) (Ent.refl _)) ?_
 refine GO.ef (Ef.a6 (BW (b:=b) (sh:=S.shard) (x:=x) s hs.kind (hcm▸hc) hB ab hml hs.cap hs.rule) rfl) ac ?_
 rintro _ _ ⟨rfl,rfl⟩
 rw [hcm,hnow]
 by_cases h2:eC S.cat S.now s.m
 case neg =>
  have e:tryM S s.m=(1,wk0 S):=by unfold tryM;rw [if_neg h1,if_pos h2]
  rw [e,an h2]
  repeat first|refine aa ?_|intro _|refine cR ?_
  exact KX.a6 ai ae (.inl ⟨by dsimp only;omega,rfl,rfl⟩)
 have e:tryM S s.m=bL S.shard S.flows.length (bP S.cat) (s.m.at (aC S)) (wk0 S) s.m.moves:=by unfold tryM;rw [if_neg h1,if_neg (fun h=>h h2)]
 rw [e,aw h2]
 have hl64:s.moves.length≤64:=by have:=h2.2.2.1.2;simpa [StV.m] using this
 repeat first|refine aa ?_|intro _|refine cR ?_
 refine GO.ent (Ent.at (A:=stM s) (Ent.a6 (Ent.at (A:=stP s) (Ent.refl _)))) ?_
 refine GO.ef (Ef.a6 (vK s hl64 hs.parts) rfl) ac ?_
 rintro _ _ ⟨s',rfl,hs',rfl⟩
 have hsm:s'.moves.map MvV.m=s.m.moves:=congrArg StM.moves hs'
 have hsml:s'.moves.length=s.moves.length:=by have:=congrArg List.length hsm;simpa [StV.m] using this
 have hsk:s'.kind=s.kind:=congrArg StM.kind hs'
 simp only [aK]
 repeat first|refine aa ?_|intro _|refine cR ?_
 refine GO.ef (Ef.c7 kvP Stk.v (.inl rfl)) ac ?_
 rintro _ _ ⟨cs,rfl,rfl⟩
 repeat first|refine aa ?_|intro _|refine cR ?_
 refine GO.ef (Ef.c7 kvI encN (.inl rfl)) ac ?_
 rintro _ _ ⟨ct,rfl,rfl⟩
 repeat first|refine aa ?_|intro _|refine cR ?_
 refine GO.ef (Ef.c7 kvI Stk.v (.inl rfl)) ac ?_
 rintro _ _ ⟨ci,rfl,rfl⟩
 repeat first|refine aa ?_|intro _|refine cR ?_
 refine GO.ef (Ef.c7 kvI Stk.v (.inl rfl)) ac ?_
 rintro _ _ ⟨cr,rfl,rfl⟩
 repeat first|refine aa ?_|intro _|refine cR ?_
 rename_i bc
 have hid:S.shard*4294967296+(x.steps.length:Int)=aC S:=by unfold aC;rw [hxs]
 rw [hid]
 have hsat:(s'.at (aC S)).m=s.m.at (aC S):=by
  show StM.at s'.m (aC S)=_
  rw [hs']
 have hcur0:WkF x ⟨cs,ct,ci,cr,[],[],[],none,0,[],none,0⟩ (wk0 S):=⟨fun a i=>hF.stk a i,fun i=>hF.tot i,rfl,rfl⟩
 refine G.loop (α:=Nat×ChX×Wk) (fun g=>g.1≤s'.moves.length∧WkF x g.2.1 g.2.2∧g.2.2.Ok x.flows.length∧g.2.2.flows.length=g.1∧bL S.shard S.flows.length (bP S.cat) (s.m.at (aC S)) (wk0 S) s.m.moves=bL S.shard S.flows.length (bP S.cat) (s.m.at (aC S)) g.2.2 (s.m.moves.drop g.1))
  (fun g=>[(0,.pointer (some ⟨b,0,none⟩)),(4,.pointer none),(5,.int .i64 0),(6,.pointer (some ⟨bc,0,none⟩)),(48,.slice s'.mad s'.moves.length s'.mcap),(49,.int .i64 (s'.moves.length:Int)),(50,.int .i64 (g.1:Int))])
  (fun g=>chL b bc (s'.at (aC S)) g.2.1 (ledL b S.shard x (stM s'::stP s'::stM s::stP s::L))) (fun g=>s'.moves.length - g.1) (0,⟨cs,ct,ci,cr,[],[],[],none,0,[],none,0⟩,wk0 S) ⟨Nat.zero_le _,hcur0,hxf▸km hS,rfl,rfl⟩ aj ?_ ?_
 ·simp only [chL,ledL,dA,bT,StV.at,List.length_nil]
  refine (Ent.a7 bH 11 cz).trans ?_
  refine (Ent.a7 (encZ .i64) 1 tInt).trans ?_
  refine (Ent.c7 (fun p:(Int×Int)×Stk=>stkP p.2)).trans ?_
  refine (Ent.c7 flP).trans ?_
  exact ae
 rintro ⟨i,z,W⟩ ⟨hi,hW,hO,hWl,hmv⟩
 dsimp only at hi hW hO hWl hmv ⊢
 by_cases hlt:i<s'.moves.length
 case neg =>
  have hdr:s.m.moves.drop i=[]:=List.drop_of_length_le (by rw [← hsm,List.length_map];omega)
  rw [hdr] at hmv
  rw [hmv]
  simp only [chL,ledL,dA,bT]
  repeat first|refine aa ?_|intro _|refine cR ?_
  exact KX.a6 ai (Ent.refl _) (.inr ⟨rfl,bc,s'.at (aC S),z,rfl,⟨hsat,hW⟩,rfl⟩)
 have hii:(i:Int).toNat=i:=ab
 have hgm:s'.moves[i]!.m=s.m.moves[i]!:=by rw [← hsm];exact (ek MvV.m hlt).symm
 have hlm:i<s.m.moves.length:=by rw [← hsm,List.length_map];exact hlt
 have hdr:s.m.moves.drop i=s'.moves[i]!.m::s.m.moves.drop (i+1):=by rw [hgm];exact kg hlm
 have hfit:=h2.2.2.2.1 s'.moves[i]!.m (by rw [hgm];exact ap hlm)
 have hfit2:MvFit x s'.moves[i]!.m:=by
  unfold dv at hfit
  rw [cu] at hfit
  have h3:=of_decide_eq_true hfit
  exact ⟨⟨h3.1.1,by have h4:=h3.1.2;rw [← hcm] at h4;exact h4⟩,h3.2.1,h3.2.2.1,h3.2.2.2.1,h3.2.2.2.2.1,h3.2.2.2.2.2.2.2⟩
 rw [hdr] at hmv
 have hmv2:bL S.shard S.flows.length (bP S.cat) (s.m.at (aC S)) W (s'.moves[i]!.m::s.m.moves.drop (i+1))=if (bh S.shard S.flows.length (bP S.cat) (s.m.at (aC S)) W s'.moves[i]!.m).1=0 then bL S.shard S.flows.length (bP S.cat) (s.m.at (aC S)) (bh S.shard S.flows.length (bP S.cat) (s.m.at (aC S)) W s'.moves[i]!.m).2 (s.m.moves.drop (i+1)) else ((bh S.shard S.flows.length (bP S.cat) (s.m.at (aC S)) W s'.moves[i]!.m).1,W):=rfl
 rw [hmv2] at hmv
 have hmo:=iv (sh:=S.shard) (mix:=bP S.cat) (s:=s.m.at (aC S)) (m:=s'.moves[i]!.m) hO hT hfit2.n hsh1
 have hspec:=Cv (L:=stM s'::stP s'::stM s::stP s::L) b bc S.shard x (s'.at (aC S)) z s'.moves[i]! W hW hO hfit2 (show cT s'.kind by rw [hsk];exact hs.kind) hT hil ⟨hsh1,hsh2⟩ ab ab
 rw [hsat,hmix] at hspec
 rw [hxf] at hspec hmo
 generalize bh S.shard S.flows.length (bP S.cat) (s.m.at (aC S)) W s'.moves[i]!.m=r at *
 simp only [chL,ledL,dA,bT,stM]
 repeat first|refine aa ?_|intro _|refine cR ?_
 rw [hii]
 refine GO.ent Ent.drop ?_
 refine GO.ef (Ef.a6 (hspec) rfl) ac ?_
 rintro _ _ ⟨z',rfl,hz',rfl⟩
 by_cases hr:r.1=0
 ·rw [if_pos hr] at hmv
  simp only [chL,ledL,dA,bT]
  repeat first|refine aa ?_|intro _|refine cR ?_
  refine ⟨(i+1,z',r.2),⟨by dsimp only;omega,hz' hr,by rw [hxf];exact (hmo hr).1,by dsimp only;rw [(hmo hr).2,hWl],hmv⟩,by dsimp only;omega,?_,Ent.refl _⟩
  dsimp only
  rw [show ((i+1:Nat):Int)=(i:Int)+1 by omega]
  exact aj
 ·rw [if_neg hr] at hmv
  rw [hmv]
  simp only [chL,ledL,dA,bT]
  repeat first|refine aa ?_|intro _|refine cR ?_
  exact KX.a6 ai ae (.inl ⟨hr,rfl,rfl⟩)
end
section
section plain
variable {κ α:Type} [DecidableEq κ]
theorem pI (p:κ×α) (l:List (κ×α)) (k:κ):glk (p::l) k=if k=p.1 then some p.2 else glk l k:=by
 obtain ⟨q,a⟩:=p
 unfold glk
 rw [List.lookup_cons]
 by_cases h:k=q
 ·subst h;simp
 ·have hb:(k == q)=false:=by simpa using h
  simp only [hb,if_neg h]
theorem jm (m:List (κ×α)) (k q:κ) (a:α):glk (gins m k a) q=if q=k then some a else glk m q:=fc
theorem pH (m:List (κ×α)) (k q:κ):glk (gera m k) q=if q=k then none else glk m q:=xV
theorem vr {l:List (κ×α)} {k:κ} (h:k∉l.map (·.1)):glk l k=none:=by
 induction l with
 | nil=>rfl
 | cons p l ih =>
  simp only [List.map_cons,List.mem_cons,not_or] at h
  rw [pI,if_neg h.1,ih h.2]
theorem vq {l l' : List (κ×α)} (hp:l.Perm l') (hn:(l'.map (·.1)).Nodup) (k:κ):glk l k=glk l' k:=by
 have hn2:(l.map (·.1)).Nodup:=(hp.map _).nodup_iff.2 hn
 cases h:glk l k with
 | some a=>exact (dz hn (hp.mem_iff.1 (gw h))).symm
 | none =>
  cases h2:glk l' k with
  | none=>rfl
  | some a =>
   have h3:glk l k=some a:=dz hn2 (hp.mem_iff.2 (gw h2))
   rw [h] at h3
   cases h3
def iG (m n:List (κ×α)):List (κ×α):=n.foldl (fun m p=>gins m p.1 p.2) m
theorem pd (k:κ):∀ (n m:List (κ×α)),(n.map (·.1)).Nodup→glk (iG m n) k=(glk n k).or (glk m k)
 | [],m,_=>rfl
 | p::n,m,hn=>by
  simp only [List.map_cons,List.nodup_cons] at hn
  have ih:=pd k n (gins m p.1 p.2) hn.2
  have e:iG m (p::n)=iG (gins m p.1 p.2) n:=rfl
  rw [e,ih,pI,jm]
  by_cases h:k=p.1
  ·rw [if_pos h,if_pos h,vr (h▸hn.1)]
   rfl
  ·rw [if_neg h,if_neg h]
end plain
def putS (m:List ((Int×Int)×Stk)) (p:(Int×Int)×Stk):List ((Int×Int)×Stk):=if p.2.lots.length=0 then gera m p.1 else gins m p.1 p.2
def fi (m n:List ((Int×Int)×Stk)):List ((Int×Int)×Stk):=n.foldl putS m
theorem qh (m:List ((Int×Int)×Stk)) (p:(Int×Int)×Stk) (k:Int×Int):(eO (putS m p) k).lots=if k=p.1 then p.2.lots else (eO m k).lots:=by
 unfold eO putS
 by_cases h0:p.2.lots.length=0
 ·rw [if_pos h0,pH]
  by_cases h:k=p.1
  ·rw [if_pos h,if_pos h,List.eq_nil_of_length_eq_zero h0];rfl
  ·rw [if_neg h,if_neg h]
 ·rw [if_neg h0,jm]
  by_cases h:k=p.1
  ·rw [if_pos h,if_pos h];rfl
  ·rw [if_neg h,if_neg h]
theorem nr (k:Int×Int):∀ (n m:List ((Int×Int)×Stk)),(n.map (·.1)).Nodup→(eO (fi m n) k).lots=((glk n k).getD (eO m k)).lots
 | [],m,_=>rfl
 | p::n,m,hn=>by
  simp only [List.map_cons,List.nodup_cons] at hn
  have ih:=nr k n (putS m p) hn.2
  have e:fi m (p::n)=fi (putS m p) n:=rfl
  rw [e,ih,pI]
  by_cases h:k=p.1
  ·rw [if_pos h,vr (h▸hn.1)]
   have h2:=qh m p k
   rw [if_pos h] at h2
   exact h2
  ·rw [if_neg h]
   cases glk n k with
   | some s=>rfl
   | none =>
    have h2:=qh m p k
    rw [if_neg h] at h2
    exact h2
theorem Dv {m:List ((Int×Int)×Stk)} {p q:(Int×Int)×Stk} (h:q∈putS m p):q∈m∨(q=p∧p.2.lots≠[]):=by
 unfold putS at h
 split at h
 ·exact .inl (List.mem_filter.1 h).1
 ·rename_i h0
  rcases List.mem_cons.1 (mG q h) with h1|h1
  ·exact .inr ⟨h1,fun h=>h0 (by rw [h];rfl)⟩
  ·exact .inl h1
theorem mn {q:(Int×Int)×Stk}:∀ {n m:List ((Int×Int)×Stk)},q∈fi m n→q∈m∨(q∈n∧q.2.lots≠[])
 | [],m,h=>.inl h
 | p::n,m,h=>by
  rcases mn (n:=n) (m:=putS m p) h with h1|h1
  ·rcases Dv h1 with h2|h2
   ·exact .inl h2
   ·exact .inr ⟨by rw [h2.1];exact List.mem_cons_self ..,by rw [h2.1];exact h2.2⟩
  ·exact .inr ⟨List.mem_cons_of_mem _ h1.1,h1.2⟩
theorem Bs (d s:Nat) (m n:List (Int×Int)) :
  Tri Tryz.prog 112 #[.map (some d),.map (some s)] [gmap kvI encN d m,gmap kvI encN s n] (fun _ L'=>∃ m',(∀ k,glk m' k=(glk n k).or (glk m k))∧L' = [gmap kvI encN d m']):=by
 refine Tri.body (args:=[.map (some d),.map (some s)]) 16 Ju Tryz.func112 rfl rfl rfl (by simp) ?_
 refine G.ent Ent.swap ?_
 refine G.c9 (fH (b:=s) (kv:=kvI) (enc:=encN) (m:=n)) ?_
 intro hn
 repeat first|refine aa ?_|intro _
 refine GO.ef (Ef.g7 rfl) ac ?_
 rintro _ _ ⟨r,rfl,rfl⟩
 repeat first|refine aa ?_|intro _
 refine G.loop (α:=List (Int×Int)) (fun z=>z.length≤n.length) (fun z=>[(0,.map (some d)),(7,.pointer (some ⟨r,0,none⟩))]) (fun z=>[dd kvI encN s n r z,gmap kvI encN d (iG m z)]) (fun z=>n.length - z.length) [] (Nat.zero_le _) aj (Ent.refl _) ?_
 intro z hz
 repeat first|refine aa ?_|intro _
 refine GO.ef (Ef.j0 rfl) ac ?_
 rintro _ _ (⟨rfl,rfl,hp⟩|⟨p,rfl,rfl,hpm,hpn,hl⟩)
 ·repeat first|refine aa ?_|intro _
  refine KX.a8 ai Ent.drop ⟨iG m z,fun k=>?_,rfl⟩
  rw [pd k z m ((hp.map _).nodup_iff.2 hn),vq hp hn]
 repeat first|refine aa ?_|intro _
 refine GO.ev (Ev.g9 (done:=z) rfl rfl) ac ?_
 repeat first|refine aa ?_|intro _
 refine GO.efu (Ef.e9 (enc:=encN) (e:=p.2) rfl rfl rfl rfl) ?_
 rintro _ _ rfl
 repeat first|refine aa ?_|intro _
 refine ⟨z++[p],by simp;omega,by simp;omega,aj,?_⟩
 rw [show iG m (z++[p])=gins (iG m z) p.1 p.2 by simp [iG]]
 exact ae
theorem rl (d s:Nat) (m:List (Int×Stk)) :
  Tri Tryz.prog 113 #[.map (some d),.map (some s)] [gmap kvI Stk.v d m,gmap kvI Stk.v s []] (fun _ L'=>L' = [gmap kvI Stk.v d m]):=by
 refine Tri.body (args:=[.map (some d),.map (some s)]) 16 Jt Tryz.func113 rfl rfl rfl (by simp) ?_
 refine G.ent Ent.swap ?_
 repeat first|refine aa ?_|intro _
 refine GO.ef (Ef.g7 rfl) ac ?_
 rintro _ _ ⟨r,rfl,rfl⟩
 repeat first|refine aa ?_|intro _
 refine G.d7 1 (GR.step ?_)
 repeat first|refine aa ?_|intro _
 refine GO.ef (Ef.j0 rfl) ac ?_
 rintro _ _ (⟨rfl,rfl,hp⟩|⟨p,rfl,rfl,hpm,hpn,hl⟩)
 ·repeat first|refine aa ?_|intro _
  exact KX.a8 ai Ent.drop rfl
 ·exact absurd hpm (by simp)
end
section
noncomputable def ei (S:LedM) (s:StM):LedM:={ S with stk:=(tryM S s).2.stk,tot:=(tryM S s).2.tot,steps:=S.steps++[s.at (aC S)],flows:=S.flows++(tryM S s).2.flows }
open Classical in
noncomputable def aI (S:LedM) (s:StM):LedM:=if (tryM S s).1=0 then ei S s else S
noncomputable def cL (S:LedM) (s:StM):Int:=if (tryM S s).1=0 then aC S else 0
theorem EX {o p:Option Int} {d:Int}:(o.or p).getD d=o.getD (p.getD d):=by cases o<;>rfl
theorem qK {sh:Int} {nf:Nat} {mix:Int→Bool} {s:StM} (hT:∀ mx,TakeC mx) (hsh:0≤sh):∀ (ms:List MvM) (W:Wk),W.Ok nf→(∀ m∈ms,1≤m.n∧m.n≤1099511627776)→(bL sh nf mix s W ms).1=0→(bL sh nf mix s W ms).2.Ok nf∧(bL sh nf mix s W ms).2.flows.length=W.flows.length+ms.length
 | [],W,hO,_,_=>⟨hO,rfl⟩
 | m::ms,W,hO,hn,he=>by
  have e:bL sh nf mix s W (m::ms)=if (bh sh nf mix s W m).1=0 then bL sh nf mix s (bh sh nf mix s W m).2 ms else ((bh sh nf mix s W m).1,W):=rfl
  rw [e] at he ⊢
  by_cases h:(bh sh nf mix s W m).1=0
  ·rw [if_pos h] at he ⊢
   obtain ⟨h1,h2⟩:=iv hO hT (hn m (List.mem_cons_self ..)) hsh h
   obtain ⟨h3,h4⟩:=qK hT hsh ms _ h1 (fun m hm=>hn m (List.mem_cons_of_mem _ hm)) he
   refine ⟨h3,?_⟩
   rw [h4,h2,List.length_cons]
   omega
  ·rw [if_neg h] at he
   exact absurd he h
theorem iC {S:LedM} {s:StM} (hS:S.Ok) (hT:∀ mx,TakeC mx) (he:(tryM S s).1=0):S.steps.length<65536∧eC S.cat S.now s∧(tryM S s).2.Ok S.flows.length∧(tryM S s).2.flows.length=s.moves.length:=by
 unfold tryM at he ⊢
 by_cases h1:65536≤S.steps.length
 ·rw [if_pos h1] at he;exact absurd (show (4:Int)=0 from he) ab
 rw [if_neg h1] at he ⊢
 by_cases h2:eC S.cat S.now s
 case neg=>rw [if_pos h2] at he;exact absurd (show (1:Int)=0 from he) ab
 rw [if_neg (fun h=>h h2)] at he ⊢
 have h3:=qK hT hS.shard.1 s.moves (wk0 S) (km hS) (fun m hm=>by
  have h4:=h2.2.2.2.1 m hm
  unfold dv at h4
  rw [cu] at h4
  exact (of_decide_eq_true h4).2.1) he
 exact ⟨ab,h2,h3.1,by rw [h3.2];simp [wk0]⟩
theorem fj {S:LedM} {s:StM} (hS:S.Ok) (hT:∀ mx,TakeC mx):(aI S s).Ok:=by
 unfold aI
 split
 ·rename_i he
  obtain ⟨h1,h2,h3,h4⟩:=iC hS hT he
  have hl:=h2.2.2.1.2
  have hf:=hS.flows
  refine ⟨hS.shard,?_,?_,h3.stk,?_⟩
  ·simp only [ei,List.length_append,List.length_cons,List.length_nil];omega
  ·simp only [ei,List.length_append,List.length_cons,List.length_nil];omega
  ·intro i
   have:=h3.tot i
   simp only [ei,List.length_append]
   rw [Int.natCast_add]
   exact this
 ·exact hS
abbrev Ay:List Stp:=[.ev 0,.ev 1,.ev 2,.ev 3,.ev 4,.ef 5]
abbrev Ax:List Stp:=[.ev 0,.ev 1,.ev 2,.ev 3,.ev 4,.ev 5,.ef 6]
abbrev xz:List Stp:=[.ev 0,.ev 1,.ev 2,.ev 3,.ev 4,.ev 5,.ev 6,.ev 7,.ef 8]
abbrev xx:List Stp:=[.ev 0,.ev 1,.ev 2,.ev 3,.ev 4,.ev 5,.ev 6,.ev 7,.ef 8]
abbrev xv:List Stp:=[.ev 0,.ev 1,.ev 2,.ev 3,.ev 4,.ev 5,.ev 6,.ev 7,.ef 8]
abbrev xu:List Stp:=[.ev 0,.ev 1,.ev 2,.ev 3,.ev 4,.ev 5,.ev 6,.ev 7,.ev 8,.ef 9,.ev 10,.ev 11,.ef 12]
abbrev xt:List Stp:=[.ev 0,.ev 1,.ev 2,.ev 3,.ev 4,.ev 5,.ev 6,.ev 7,.ev 8,.ef 9,.ef 10,.ev 11,.ev 12,.ef 13]
theorem cv {φ ψ:Prop} (k:ψ) (h:Hid ψ→φ:=by intro k;(with_reducible apply G.a7);first|refine G.a6 (N:=100) (id:=8) Ay mixed ah (Hid.out k)|refine G.a6 (N:=100) (id:=9) Ax mixed ah (Hid.out k)|refine G.a6 (N:=100) (id:=10) xz mixed ah (Hid.out k)|refine G.a6 (N:=100) (id:=11) xx mixed ah (Hid.out k)|refine G.a6 (N:=100) (id:=12) xv mixed ah (Hid.out k)|refine G.a6 (N:=100) (id:=13) xu mixed ah (Hid.out k)|refine G.a6 (N:=100) (id:=14) xt mixed ah (Hid.out k)):φ:=h ⟨k⟩
theorem jJ {L:List HP} (b:Nat) (S:LedM) (hS:S.Ok) (hc:S.cat.Ok) (s:StV) (hs:StIn s) (hT:∀ mx,TakeC mx) :
  Tri Tryz.prog 63 #[.pointer (some ⟨b,0,none⟩),.agg (aK s).toArray] (LedR b S::stM s::stP s::L) (fun v L'=>v=.tuple #[.int .i64 (cL S s.m),.int .i64 (tryM S s.m).1]∧L' = LedR b (aI S s.m)::stM s::stP s::L):=by
 obtain ⟨hsh1,hsh2⟩:=hS.shard
 have hsl:=hS.steps
 have hfl:=hS.flows
 refine Tri.body (args:=[.pointer (some ⟨b,0,none⟩),.agg (aK s).toArray]) 100 en63 Tryz.func63 rfl rfl rfl (by simp) ?_
 refine G.c6 (f:=ledA b S) ?_
 intro x
 simp only [ledA,ledL,List.cons_append,List.nil_append]
 refine G.c8 ?_
 intro hF
 have hxs:x.steps.length=S.steps.length:=by rw [← hF.steps];simp
 have hxf:x.flows.length=S.flows.length:=by rw [← hF.flows];simp
 repeat first|refine aa ?_|intro _|refine cv ?_
 refine GO.ent Ent.drop ?_
 refine GO.ef (Ef.a6 (Dm b S hS hc x hF s hs hT) rfl) ac ?_
 rintro _ _ (⟨he,rfl,rfl⟩|⟨he,bc,s',z,rfl,⟨hs',hW⟩,rfl⟩)
 ·have e1:aI S s.m=S:=if_neg he
  have e2:cL S s.m=0:=if_neg he
  rw [e1,e2]
  repeat first|refine aa ?_|intro _|refine cv ?_
  exact KX.a6 ai (fP x hF) ⟨rfl,rfl⟩
 have e1:aI S s.m=ei S s.m:=if_pos he
 have e2:cL S s.m=aC S:=if_pos he
 obtain ⟨o1,o2,o3,o4⟩:=iC hS hT he
 have hml:s.m.moves.length≤64:=o2.2.2.1.2
 have hzl:z.flows.length≤64:=by
  have:=congrArg List.length hW.flows
  rw [List.length_map] at this
  omega
 have hsid:s'.id=aC S:=congrArg StM.id hs'
 rw [e1,e2,he]
 simp only [chL,ledL,dA,bT]
 repeat first|refine aa ?_|intro _|refine cv ?_
 refine GO.c9 (fH (b:=z.cs) (kv:=kvP) (enc:=Stk.v) (m:=z.stk)) ?_
 intro hnd
 refine GO.ef (Ef.g7 rfl) ac ?_
 rintro _ _ ⟨r,rfl,rfl⟩
 repeat first|refine aa ?_|intro _|refine cv ?_
 refine G.loop (α:=List ((Int×Int)×Stk)) (fun g=>g.length≤z.stk.length) (fun _=>[(0,.pointer (some ⟨b,0,none⟩)),(6,.pointer (some ⟨bc,0,none⟩)),(23,.pointer (some ⟨r,0,none⟩))])
  (fun g=>dd kvP Stk.v z.cs z.stk r g::gmap kvP Stk.v x.ms (fi x.stk g)::obj bc tCh (dA b s' z)::gmap kvI encN z.ct z.tot::gmap kvI Stk.v z.ci []::gmap kvI Stk.v z.cr []::osl bH 11 cz z.fad z.fcap z.flows::allP (fun p:(Int×Int)×Stk=>stkP p.2) z.stk::allP flP z.flows::obj b tLed (bT S.shard x)::gmap kvI encN x.mt x.tot::osl aK 7 cy x.sad x.scap x.steps::osl bH 11 cz x.fad x.fcap x.flows::gmap kvI Stk.v x.mi x.imp::gmap kvI Stk.v x.mr x.ret::catP x.cat::allP (fun p:(Int×Int)×Stk=>stkP p.2) x.stk::allP fx x.steps::allP flP x.flows::allP (fun p:Int×Stk=>stkP p.2) x.imp::allP (fun p:Int×Stk=>stkP p.2) x.ret::stM s'::stP s'::stM s::stP s::L)
  (fun g=>z.stk.length - g.length) [] (Nat.zero_le _) aj ?_ ?_
 ·simp only [fi,List.foldl_nil]
  exact ae
 intro g hg
 simp only [dA,bT]
 repeat first|refine aa ?_|intro _|refine cv ?_
 refine GO.ef (Ef.j0 rfl) ac ?_
 rintro _ _ (⟨rfl,rfl,hp⟩|⟨p,rfl,rfl,hpm,hpn,hl⟩)
 case inr =>
  have hpa:fi x.stk (g++[p])=putS (fi x.stk g) p:=by simp [fi]
  repeat first|refine aa ?_|intro _|refine cv ?_
  refine GO.ev (Ev.g9 (done:=g) rfl rfl) ac ?_
  simp only [kvP,Stk.v,List.map_cons,List.map_nil]
  by_cases h0:p.2.lots.length=0
  ·have hpb:putS (fi x.stk g) p=gera (fi x.stk g) p.1:=if_pos h0
   repeat first|refine aa ?_|intro _|refine cv ?_
   refine GPW.efu (Ef.k5 rfl rfl) ?_
   rintro _ _ rfl
   repeat first|refine aa ?_|intro _|refine cv ?_
   refine ⟨g++[p],by simp;omega,by simp;omega,aj,?_⟩
   rw [hpa,hpb]
   exact ae
  ·have hpb:putS (fi x.stk g) p=gins (fi x.stk g) p.1 p.2:=if_neg h0
   repeat first|refine aa ?_|intro _|refine cv ?_
   refine GPW.efu (Ef.e9 (enc:=Stk.v) (e:=p.2) rfl rfl rfl rfl) ?_
   rintro _ _ rfl
   repeat first|refine aa ?_|intro _|refine cv ?_
   refine ⟨g++[p],by simp;omega,by simp;omega,aj,?_⟩
   rw [hpa,hpb]
   exact ae
 repeat first|refine aa ?_|intro _|refine cv ?_
 (first|refine GPW.ef (Ef.call (Bs x.mt z.ct x.tot z.tot) rfl (by repeat (first|exact Ent.refl _|apply Ent.take))) ac ?_)
 rintro _ _ ⟨_,⟨m',hm',rfl⟩,hL⟩
 simp only [List.cons_append,List.nil_append] at hL;subst hL
 repeat first|refine aa ?_|intro _|refine cv ?_
 (first|refine GPW.ef (Ef.call (rl x.mi z.ci x.imp) rfl (by repeat (first|exact Ent.refl _|apply Ent.take))) ac ?_)
 rintro _ _ ⟨_,rfl,hL⟩
 simp only [List.cons_append,List.nil_append] at hL;subst hL
 repeat first|refine aa ?_|intro _|refine cv ?_
 (first|refine GPW.ef (Ef.call (rl x.mr z.cr x.ret) rfl (by repeat (first|exact Ent.refl _|apply Ent.take))) ac ?_)
 rintro _ _ ⟨_,rfl,hL⟩
 simp only [List.cons_append,List.nil_append] at hL;subst hL
 repeat first|refine aa ?_|intro _|refine cv ?_
 refine GPW.ef (Ef.c6 (enc:=bH) (ys:=z.flows) rfl rfl rfl rfl rfl (fun e _=>iL e) ab ab) ac ?_
 rintro _ _ ⟨fad2,fcap2,rfl,rfl⟩
 repeat first|refine aa ?_|intro _|refine cv ?_
 refine GPW.ef (Ef.a7 (enc:=aK) (e:=s') rfl rfl rfl rfl rfl (by rfl) (mL _) ab ab) ac ?_
 rintro _ _ ⟨sad2,scap2,rfl,rfl⟩
 repeat first|refine aa ?_|intro _|refine cv ?_
 rw [hsid]
 refine KX.a6 ai ?_ ⟨rfl,rfl⟩
 refine Ent.trans ?_ (fP (S:=ei S s.m) { x with stk:=fi x.stk g,tot:=m',steps:=x.steps++[s'],sad:=sad2,scap:=scap2,flows:=x.flows++z.flows,fad:=fad2,fcap:=fcap2 } ⟨hF.cat,hF.catB,?_,?_,?_,?_,?_,hF.imp,hF.ret⟩)
 ·simp only [ledL,bT,ei]
  refine (Ent.at (A:=stP s') (Ent.refl _)).trans ?_
  refine (Ent.at (A:=stM s') (Ent.refl _)).trans ?_
  refine (Ent.d8 (tM s') (cj kd)).trans ?_
  refine (Ent.at (A:=allP fx x.steps) (Ent.refl _)).trans ?_
  refine ((Ent.a6 (Ent.d9 (f:=fx) (x:=s') rB)).trans (Ent.e8 rB)).trans ?_
  refine (Ent.at (A:=allP flP z.flows) (Ent.refl _)).trans ?_
  refine (Ent.at (A:=allP flP x.flows) (Ent.refl _)).trans ?_
  refine (Ent.e8 mJ).trans ?_
  refine (Ent.at (A:=allP (fun p:(Int×Int)×Stk=>stkP p.2) z.stk) (Ent.refl _)).trans ?_
  refine (Ent.at (A:=allP (fun p:(Int×Int)×Stk=>stkP p.2) x.stk) (Ent.refl _)).trans ?_
  refine (Ent.e8 (f:=fun p:(Int×Int)×Stk=>stkP p.2) (fun p=>ue p.2)).trans ?_
  refine (Ent.g6 (l':=fi x.stk g) (fun q hq=>?_)).trans ?_
  ·rcases mn hq with h1|h1
   ·exact List.mem_append_left _ h1
   ·exact List.mem_append_right _ (hp.mem_iff.1 h1.1)
  exact ae
 ·intro a i
  rw [nr _ _ _ ((hp.map _).nodup_iff.2 hnd),vq hp hnd]
  exact hW.stk a i
 ·intro q hq
  rcases mn hq with h1|h1
  ·exact hF.full q h1
  ·exact h1.2
 ·intro i
  dsimp only
  rw [hm',EX]
  exact hW.tot i
 ·show (x.steps++[s']).map StV.m=S.steps++[s.m.at (aC S)]
  rw [List.map_append,hF.steps,← hs']
  rfl
 ·show (x.flows++z.flows).map (·.m)=S.flows++(tryM S s.m).2.flows
  rw [List.map_append,hF.flows]
  exact congrArg _ hW.flows
end
section
theorem jQ {L:List HP} (b:Nat) (S:LedM) (hS:S.Ok) (a i:Int) :
  Tri Tryz.prog 46 #[.pointer (some ⟨b,0,none⟩),.int .i64 a,.int .i64 i] (LedR b S::L) (fun v L'=>v=.int .i64 (lsum (S.stk a i))∧L' = LedR b S::L):=by
 refine Tri.body (args:=[.pointer (some ⟨b,0,none⟩),.int .i64 a,.int .i64 i]) 16 en46 Tryz.func46 rfl rfl rfl (by simp) ?_
 refine G.c6 (f:=ledA b S) ?_
 intro x
 simp only [ledA,ledL,bT,List.cons_append,List.nil_append]
 refine G.c8 ?_
 intro hF
 obtain ⟨hc1,hc2⟩:=hS.stk a i
 have hst:=hF.stk a i
 rw [← hst] at hc1 hc2 ⊢
 refine G.ent (Ent.at (A:=allP (fun p:(Int×Int)×Stk=>stkP p.2) x.stk) (sg (a,i))) ?_
 repeat first|refine aa ?_|intro _
 refine GO.ev (Ev.c7 rfl rfl) ac ?_
 rw [yC]
 generalize eO x.stk (a,i)=sk at *
 simp only [Stk.v]
 repeat first|refine aa ?_|intro _
 refine GO.ef (Ef.a6 (lg sk.ad sk.lots.length sk.cap sk.lots rfl hc1 hc2) rfl) ac ?_
 rintro _ _ ⟨rfl,rfl⟩
 repeat first|refine aa ?_|intro _
 refine KX.a6 ai ?_ ⟨rfl,rfl⟩
 refine Ent.trans ?_ (fP x hF)
 simp only [ledL,bT]
 exact ae
theorem CatV.a6 {c c' : CatV} (h:c'.m=c.m) (hB:c.B):c'.B:=by
 obtain ⟨b1,b2,b3,b4,b5,b6,b7⟩:=hB
 have h1:c'.items=c.items:=congrArg CatM.items h
 have h2:c'.rules.map RuV.m=c.rules.map RuV.m:=congrArg CatM.rules h
 have h3:c'.tables.map TbV.m=c.tables.map TbV.m:=congrArg CatM.tables h
 have h4:c'.taxes.map TxV.m=c.taxes.map TxV.m:=congrArg CatM.taxes h
 have l2:c'.rules.length=c.rules.length:=by simpa using congrArg List.length h2
 have l3:c'.tables.length=c.tables.length:=by simpa using congrArg List.length h3
 have l4:c'.taxes.length=c.taxes.length:=by simpa using congrArg List.length h4
 refine ⟨by rw [h1];exact b1,ab,ab,ab,?_,?_,?_⟩
 ·intro r hr
  have hm:r.m∈c.rules.map RuV.m:=by rw [← h2];exact List.mem_map_of_mem hr
  obtain ⟨q,hq,hqe⟩:=List.mem_map.1 hm
  obtain ⟨q1,q2,q3⟩:=b5 q hq
  have t1:q.take.l=r.take.l:=congrArg RuM.take hqe
  have t2:q.give.l=r.give.l:=congrArg RuM.give hqe
  have t3:q.back.l=r.back.l:=congrArg RuM.back hqe
  exact ⟨by rw [← t1];exact q1,by rw [← t2];exact q2,by rw [← t3];exact q3⟩
 ·intro r hr
  have hm:r.m∈c.tables.map TbV.m:=by rw [← h3];exact List.mem_map_of_mem hr
  obtain ⟨q,hq,hqe⟩:=List.mem_map.1 hm
  obtain ⟨q1,q2⟩:=b6 q hq
  have t1:q.rows.map RwV.m=r.rows.map RwV.m:=congrArg TbM.rows hqe
  have t2:q.rows.length=r.rows.length:=by simpa using congrArg List.length t1
  refine ⟨by rw [← t2];exact q1,?_⟩
  intro w hw
  have hw2:w.m∈q.rows.map RwV.m:=by rw [t1];exact List.mem_map_of_mem hw
  obtain ⟨y,hy,hye⟩:=List.mem_map.1 hw2
  have t4:y.give.l=w.give.l:=congrArg RwM.give hye
  have:=q2 y hy
  unfold RwV.B at this ⊢
  rw [← t4]
  exact this
 ·intro r hr
  have hm:r.m∈c.taxes.map TxV.m:=by rw [← h4];exact List.mem_map_of_mem hr
  obtain ⟨q,hq,hqe⟩:=List.mem_map.1 hm
  have q1:=b7 q hq
  have t1:q.brs=r.brs:=congrArg TxM.brs hqe
  unfold TxV.B at q1 ⊢
  rw [← t1]
  exact q1
theorem iN {L:List HP} (b:Nat) (S:LedM) :
  Tri Tryz.prog 51 #[.pointer (some ⟨b,0,none⟩)] (LedR b S::L) (fun v L'=>∃ c',v=.agg c'.cells.toArray∧(c'.m=S.cat∧c'.B)∧L' = catP c'::LedR b S::L):=by
 refine Tri.body (args:=[.pointer (some ⟨b,0,none⟩)]) 8 en51 Tryz.func51 rfl rfl rfl (by simp) ?_
 refine G.c6 (f:=ledA b S) ?_
 intro x
 simp only [ledA,ledL,bT,List.cons_append,List.nil_append]
 refine G.c8 ?_
 intro hF
 repeat first|refine aa ?_|intro _
 refine GO.ent (Ent.at (A:=catP x.cat) (Ent.refl _)) ?_
 refine GO.ef (Ef.a6 (nh x.cat hF.catB) rfl) ac ?_
 rintro _ _ ⟨c',rfl,hc',rfl⟩
 simp only [CatV.cells]
 repeat first|refine aa ?_|intro _
 refine KX.a6 (by exact ResOk.cell rfl (by rfl) (ResOk.nil)) ?_ ⟨c',rfl,⟨hc'.trans hF.cat,CatV.a6 hc' hF.catB⟩,rfl⟩
 refine Ent.drop.trans (Ent.a6 ?_)
 refine Ent.trans ?_ (fP x hF)
 simp only [ledL,bT]
 exact ae
abbrev Aw:List Stp:=[.ev 0,.ev 1,.ev 2,.ev 3,.ev 4,.ev 5,.ev 6,.ev 7,.ev 8,.ev 9,.ev 10,.ev 11,.ev 12,.ev 13]
theorem ng {φ ψ:Prop} (k:ψ) (h:Hid ψ→φ:=by intro k;(with_reducible apply G.a7);first|refine G.a6 (N:=22) (id:=3) Aw mixed ah (Hid.out k)):φ:=h ⟨k⟩
theorem nC {L:List HP} (b:Nat) (S:LedM) (hS:S.Ok) :
  Tri Tryz.prog 27 #[.pointer (some ⟨b,0,none⟩)] (LedR b S::L) (fun v L'=>v=.int .i64 S.now∧L' = LedR b S::L):=by
 have hsl:=hS.steps
 refine Tri.body (args:=[.pointer (some ⟨b,0,none⟩)]) 22 en27 Tryz.func27 rfl rfl rfl (by simp) ?_
 refine G.c6 (f:=ledA b S) ?_
 intro x
 simp only [ledA,ledL,bT,List.cons_append,List.nil_append]
 refine G.c8 ?_
 intro hF
 have hxs:x.steps.length=S.steps.length:=by rw [← hF.steps];simp
 rw [← uY hF]
 by_cases h0:x.steps.length=0
 ·repeat first|refine aa ?_|intro _|refine ng ?_
  refine KX.a6 ai ?_ ⟨by rw [List.eq_nil_of_length_eq_zero h0];rfl,rfl⟩
  exact fP x hF
 ·repeat first|refine aa ?_|intro _|refine ng ?_
  refine KX.a6 ai ?_ ⟨?_,rfl⟩
  ·exact fP x hF
  ·have e:x.steps.getLast? = some x.steps[((x.steps.length:Int) - 1).toNat]!:=by
    rw [show ((x.steps.length:Int) - 1).toNat=x.steps.length - 1 by omega,List.getLast?_eq_getElem?,getElem!_of ab,List.getElem?_eq_getElem]
   rw [e]
   rfl
end
end Go.Proofs.YtfmgkkofledkbaaGreatDoor
