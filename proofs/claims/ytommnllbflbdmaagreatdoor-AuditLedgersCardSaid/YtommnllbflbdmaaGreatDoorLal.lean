/- Lemmas. -/
import Derived.Test.YtommnllbflbdmaaGreatDoorLak
import Derived.ArgAppend
set_option linter.all false
set_option maxHeartbeats 1000000
namespace Go.Proofs.YtommnllbflbdmaaGreatDoor
open Go.V
attribute [local irreducible] G GO GP GPW GPK Ev Ef EfR Ent CB GB Enters
structure AmS where
 l:List (Int×Int)
 ad:OA
 cap:Nat
 deriving Inhabited
def AmS.v(a:AmS):Value:=.slice a.ad a.l.length a.cap
abbrev amS(a:AmS):HP:=isl bL 2 a.ad a.l
theorem jf(a:AmS):PersM (amS a):=bT _ _ _ _
theorem kF{L:LH}(ad:OA)(n c:Nat)(xs:List (Int×Int))[Rds L ad (Int×Int) bL 2 xs](hn:n=xs.length)(hb:n≤1000000) :
  Tri ah 207 #[.slice ad n c] L (fun v L'=>∃ad' cap',v=.slice ad' xs.length cap'∧L' = osl bL 2 81 ad' cap' xs::L):=by
 refine Tri.body (args:=[.slice ad n c]) 8 IB Tryz.func207 rfl rfl rfl (by simp) ?_;repeat' first|refine aa ?_|intro _|with_reducible refine CB.dec (fun _=>?_) (fun _=>?_)|with_reducible refine GB.dec (fun _=>?_) (fun _=>?_)|with_reducible refine CB.bool (fun _=>?_) (fun _=>?_)|with_reducible refine GB.bool (fun _=>?_) (fun _=>?_)
 ·have h:ad=none:=by assumption
  subst h;refine KX.f9 (.inl rfl) (ni (L:=L) (xs:=xs)) ?_;intro hx;subst hx;refine KX.d7 ai (Ent.d8 bL 2 81) ⟨_,_,rfl,rfl⟩
 ·refine GO.ent (Ent.e8 (enc:=bL) (sz:=2) (xs:=[]) rfl rfl (by simp) (by simp)) ?_;refine GO.ef (Ef.e7 rfl rfl rfl rfl hn (fun e _=>pj e) (by simp;omega) (by simp;omega)) ae ?_;rintro _ _⟨ad',cap',rfl,rfl⟩;repeat first|refine aa ?_|intro
  refine KX.d7 ai (Ent.refl _) ⟨ad',cap',rfl,rfl⟩
structure ItG where
 name:ByteArray
 obj:Bool
 mixed:Bool
 coin:Bool
 wear:Int
 bind:Int
 level:Int
 deriving Inhabited
def bS(i:ItG):LV:=[.string i.name,.bool i.obj,.bool i.mixed,.bool i.coin,ab i.wear,ab i.bind,ab i.level]
theorem su(t:ItG):∀u∈bS t,u.oneCell' = true:=by simp[bS,Value.oneCell']
instance:EncC bS:=⟨su⟩
theorem uL{L:LH}(ad:OA)(n c:Nat)(xs:List ItG)[Rds L ad ItG bS 7 xs](hn:n=xs.length)(hb:n≤1000000) :
  Tri ah 116 #[.slice ad n c] L (fun v L'=>∃ad' cap',v=.slice ad' xs.length cap'∧L' = osl bS 7 147 ad' cap' xs::L):=by
 refine Tri.body (args:=[.slice ad n c]) 8 Kb Tryz.func116 rfl rfl rfl (by simp) ?_;repeat' first|refine aa ?_|intro _|with_reducible refine CB.dec (fun _=>?_) (fun _=>?_)|with_reducible refine GB.dec (fun _=>?_) (fun _=>?_)|with_reducible refine CB.bool (fun _=>?_) (fun _=>?_)|with_reducible refine GB.bool (fun _=>?_) (fun _=>?_)
 ·have h:ad=none:=by assumption
  subst h;refine KX.f9 (.inl rfl) (ni (L:=L) (xs:=xs)) ?_;intro hx;subst hx;refine KX.d7 ai (Ent.d8 bS 7 147) ⟨_,_,rfl,rfl⟩
 ·refine GO.ent (Ent.e8 (enc:=bS) (sz:=7) (xs:=[]) rfl rfl (by simp) (by simp)) ?_;refine GO.ef (Ef.e7 rfl rfl rfl rfl hn (fun e _=>su e) (by simp;omega) (by simp;omega)) ae ?_;rintro _ _⟨ad',cap',rfl,rfl⟩;repeat first|refine aa ?_|intro
  refine KX.d7 ai (Ent.refl _) ⟨ad',cap',rfl,rfl⟩
structure RuM where
 name:ByteArray
 spawn:Bool
 level:Int
 time:Int
 chance:Int
 of_:Int
 take:List (Int×Int)
 give:List (Int×Int)
 back:List (Int×Int)
 deriving Inhabited
structure RuV where
 name:ByteArray
 spawn:Bool
 level:Int
 time:Int
 chance:Int
 of_:Int
 take:AmS
 give:AmS
 back:AmS
 deriving Inhabited
def RuV.m(r:RuV):RuM:=⟨r.name,r.spawn,r.level,r.time,r.chance,r.of_,r.take.l,r.give.l,r.back.l⟩
def bQ(r:RuV):LV:=[.string r.name,.bool r.spawn,ab r.level,ab r.time,ab r.chance,ab r.of_,.slice r.take.ad r.take.l.length r.take.cap,.slice r.give.ad r.give.l.length r.give.cap,.slice r.back.ad r.back.l.length r.back.cap]
theorem uh(t:RuV):∀u∈bQ t,u.oneCell' = true:=by simp[bQ,Value.oneCell']
instance:EncC bQ:=⟨uh⟩
def ruP(r:RuV):HP:=andP (amS r.take) (andP (amS r.give) (amS r.back))
theorem iX(r:RuV):PersM (ruP r):=(jf _).and ((jf _).and (jf _))
def ru0:RuV:=⟨⟨#[]⟩,false,0,0,0,0,⟨[],none,0⟩,⟨[],none,0⟩,⟨[],none,0⟩⟩
def RuV.B(r:RuV):Prop:=r.take.l.length≤64∧r.give.l.length≤64∧r.back.l.length≤64
abbrev AO:List Stp:=[.ev 0,.ev 1,.ev 3,.ev 4,.ev 6,.ev 7,.ef 2,.ev 9,.ef 5,.ef 8,.ef 10,.ev 11,.ef 12,.ev 13,.ef 14]
theorem iQ{φ ψ:Prop}(k:ψ)(h:Hid ψ→φ:=by intro k;(with_reducible apply G.d8);first|refine G.d7 (N:=16) (id:=1) AO mixed ap (Hid.out k)):φ:=h ⟨k⟩
theorem zl{L:LH}(r:RuV)(hb:r.B) :
  Tri ah 118 #[.agg (bQ r).toArray] (ruP r::L) (fun v L'=>∃r',v=.agg (bQ r').toArray∧r'.m=r.m∧L' = ruP r'::ruP r::L):=by
 obtain⟨name,spawn,level,time,chance,of_,⟨tl,tad,tcap⟩,⟨gl,gad,gcap⟩,⟨bl,bad,bcap⟩⟩:=r;obtain⟨hb1,hb2,hb3⟩:=hb;dsimp only at hb1 hb2 hb3;refine Tri.body (args:=[.agg (bQ ⟨name,spawn,level,time,chance,of_,⟨tl,tad,tcap⟩,⟨gl,gad,gcap⟩,⟨bl,bad,bcap⟩⟩).toArray]) 16 JZ Tryz.func118 rfl rfl rfl (by simp) ?_;refine G.ent ((Ent.dup (iX _).pers).trans (Ent.andE.trans (Ent.d7 Ent.andE))) ?_;simp only[amS];repeat first|refine aa ?_|intro _|refine iQ ?_
 refine GPW.ef (Ef.d7 (kF tad tl.length tcap tl rfl ac) rfl) ae ?_;rintro _ _⟨tad',tcap',rfl,rfl⟩;repeat first|refine aa ?_|intro _|refine iQ ?_
 refine GPW.ef (Ef.d7 (kF gad gl.length gcap gl rfl ac) rfl) ae ?_;rintro _ _⟨gad',gcap',rfl,rfl⟩;repeat first|refine aa ?_|intro _|refine iQ ?_
 refine GPW.ef (Ef.d7 (kF bad bl.length bcap bl rfl ac) rfl) ae ?_;rintro _ _⟨bad',bcap',rfl,rfl⟩;repeat first|refine aa ?_|intro _|refine iQ ?_
 refine KX.d7 (by exact ResOk.cell rfl (by rfl) (ResOk.nil)) ?_ ⟨⟨name,spawn,level,time,chance,of_,⟨tl,tad',tcap'⟩,⟨gl,gad',gcap'⟩,⟨bl,bad',bcap'⟩⟩,rfl,rfl,rfl⟩;refine(Ent.frz bad').trans ((Ent.d7 (Ent.frz gad')).trans ((Ent.d7 (Ent.d7 (Ent.frz tad'))).trans ?_));refine Ent.trans (B:=amS ⟨tl,tad',tcap'⟩::amS ⟨gl,gad',gcap'⟩::amS ⟨bl,bad',bcap'⟩::ruP ⟨name,spawn,level,time,chance,of_,⟨tl,tad,tcap⟩,⟨gl,gad,gcap⟩,⟨bl,bad,bcap⟩⟩::L) (by simp only[amS];exact ag) ?_;exact(Ent.d7 (Ent.f7 (jf _) (jf _))).trans (Ent.f7 (jf _) ((jf _).and (jf _)))
theorem zh{L:LH}(ad:OA)(c:Nat)(ms:List RuV)(hl:ms.length≤64)(hp:∀m∈ms,RuV.B m) :
  Tri ah 117 #[.slice ad ms.length c,.func (.func 118) #[] #[]] (isl bQ 9 ad ms::allP ruP ms::L) (fun v L'=>∃ad' c' ms',v=.slice ad' ms'.length c'∧ms'.map RuV.m=ms.map RuV.m∧L' = isl bQ 9 ad' ms'::allP ruP ms'::isl bQ 9 ad ms::allP ruP ms::L):=by
 refine Tri.body (args:=[.slice ad ms.length c,.func (.func 118) #[] #[]]) 29 Ka Tryz.func117 rfl rfl rfl (by simp) ?_;by_cases h0:ms.length=0
 ·have e:ms=[]:=aW h0;subst e;repeat first|refine aa ?_|intro
  exact KX.d7 ai ((Ent.e7 ruP).trans (Ent.e9 bQ 9 none)) ⟨none,0,[],rfl,rfl,rfl⟩
 repeat first|refine aa ?_|intro
 refine GO.ef (Ef.g7 bQ ru0 rfl rfl rfl ac ac ac ac) ae ?_;rintro _ _⟨bs,rfl,rfl⟩;rw[show(ms.length:Int).toNat=ms.length by omega];repeat first|refine aa ?_|intro
 refine G.loop (α:=Nat×List RuV) (fun z=>z.1≤ms.length∧z.2.length=ms.length∧(z.2.take z.1).map RuV.m=(ms.take z.1).map RuV.m) (fun z=>[(1,.func (.func 118) #[] #[]),(5,.slice (some ⟨bs,0,none⟩) ms.length ms.length),(14,.slice ad ms.length c),(15,ab (ms.length:Int)),(16,ab (z.1:Int))])
  (fun z=>osl bQ 9 79 (some ⟨bs,0,none⟩) ms.length z.2::allP ruP (z.2.take z.1)::isl bQ 9 ad ms::allP ruP ms::L) (fun z=>ms.length - z.1) (0,List.replicate ms.length ru0) ⟨ao _,by simp,by simp⟩ aj ?_ ?_
 ·dsimp only;rw[ce];refine(Ent.e7 ruP).trans ?_;exact ag
 rintro⟨i,zs⟩ ⟨hi,hzl,hze⟩;dsimp only at hi hzl hze ⊢;by_cases hlt:i<ms.length
 case neg =>
  have hie:i=ms.length:=ac;subst hie;rw[aD ac,aD ac] at hze;rw[aD (show zs.length≤ms.length by omega)];repeat first|refine aa ?_|intro
  refine KX.d7 ai (Ent.freezeSl) ⟨some ⟨bs,0,none⟩,ms.length,zs,by rw[hzl];rfl,hze,rfl⟩
 have hii:(i:Int).toNat=i:=ac;have hmm:ms[i]!∈ms:=aI hlt;repeat first|refine aa ?_|intro
 rw[hii];refine GO.ent (Ent.at (A:=allP ruP ms) (Ent.d9 (x:=ms[i]!) hmm)) ?_;refine GO.ef (Ef.d9 rfl rfl (zl ms[i]! (hp _ hmm))) ae ?_;rintro _ _⟨m',rfl,hm',rfl⟩;repeat first|refine aa ?_|intro
 refine GO.efu (Ef.e9 (e:=m') rfl rfl (by rfl) (by rfl) (uh _) ac) ?_;rintro _ _ rfl;rw[hii];repeat first|refine aa ?_|intro
 refine⟨(i+1,zs.set i m'),⟨by dsimp only;omega,by dsimp only;simp;omega,?_⟩,by dsimp only;omega,?_,?_⟩
 ·dsimp only;rw[dP ac,aC hlt,aZ,aZ,hze,←getElem!_of hlt];simp[hm']
 ·dsimp only;rw[aP i];exact aj
 ·dsimp only;rw[dP ac];refine Ent.d7 ?_;refine Ent.trans (B:=allP ruP (zs.take i)::ruP m'::isl bQ 9 ad ms::allP ruP ms::L) ag ?_;exact(Ent.d7 (Ent.g7 iX)).trans (Ent.g8 iX)
structure RwM where
 weight:Int
 give:List (Int×Int)
 deriving Inhabited
structure RwV where
 weight:Int
 give:AmS
 deriving Inhabited
def RwV.m(r:RwV):RwM:=⟨r.weight,r.give.l⟩
def eK(r:RwV):LV:=[ab r.weight,.slice r.give.ad r.give.l.length r.give.cap]
theorem ug(t:RwV):∀u∈eK t,u.oneCell' = true:=by simp[eK,Value.oneCell']
instance:EncC eK:=⟨ug⟩
abbrev rwP(r:RwV):HP:=amS r.give
theorem nE(r:RwV):PersM (rwP r):=jf _
def rw0:RwV:=⟨0,⟨[],none,0⟩⟩
def RwV.B(r:RwV):Prop:=r.give.l.length≤64
theorem zk{L:LH}(r:RwV)(hb:r.B) :
  Tri ah 209 #[.agg (eK r).toArray] (rwP r::L) (fun v L'=>∃r',v=.agg (eK r').toArray∧r'.m=r.m∧L' = rwP r'::rwP r::L):=by
 obtain⟨weight,⟨gl,gad,gcap⟩⟩:=r;unfold RwV.B at hb;dsimp only at hb;refine Tri.body (args:=[.agg (eK ⟨weight,⟨gl,gad,gcap⟩⟩).toArray]) 8 Iz Tryz.func209 rfl rfl rfl (by simp) ?_;simp only[rwP,amS];repeat first|refine aa ?_|intro
 refine GO.ef (Ef.d7 (kF gad gl.length gcap gl rfl ac) rfl) ae ?_;rintro _ _⟨gad',gcap',rfl,rfl⟩;repeat first|refine aa ?_|intro
 refine KX.d7 (by exact ResOk.cell rfl (by rfl) (ResOk.nil)) ?_ ⟨⟨weight,⟨gl,gad',gcap'⟩⟩,rfl,rfl,rfl⟩;refine(Ent.frz gad').trans ?_;exact ag
theorem zg{L:LH}(ad:OA)(c:Nat)(ms:List RwV)(hl:ms.length≤64)(hp:∀m∈ms,RwV.B m) :
  Tri ah 208 #[.slice ad ms.length c,.func (.func 209) #[] #[]] (isl eK 2 ad ms::allP rwP ms::L) (fun v L'=>∃ad' c' ms',v=.slice ad' ms'.length c'∧ms'.map RwV.m=ms.map RwV.m∧L' = isl eK 2 ad' ms'::allP rwP ms'::isl eK 2 ad ms::allP rwP ms::L):=by
 refine Tri.body (args:=[.slice ad ms.length c,.func (.func 209) #[] #[]]) 29 IA Tryz.func208 rfl rfl rfl (by simp) ?_;by_cases h0:ms.length=0
 ·have e:ms=[]:=aW h0;subst e;repeat first|refine aa ?_|intro
  exact KX.d7 ai ((Ent.e7 rwP).trans (Ent.e9 eK 2 none)) ⟨none,0,[],rfl,rfl,rfl⟩
 repeat first|refine aa ?_|intro
 refine GO.ef (Ef.g7 eK rw0 rfl rfl rfl ac ac ac ac) ae ?_;rintro _ _⟨bs,rfl,rfl⟩;rw[show(ms.length:Int).toNat=ms.length by omega];repeat first|refine aa ?_|intro
 refine G.loop (α:=Nat×List RwV) (fun z=>z.1≤ms.length∧z.2.length=ms.length∧(z.2.take z.1).map RwV.m=(ms.take z.1).map RwV.m) (fun z=>[(1,.func (.func 209) #[] #[]),(5,.slice (some ⟨bs,0,none⟩) ms.length ms.length),(14,.slice ad ms.length c),(15,ab (ms.length:Int)),(16,ab (z.1:Int))])
  (fun z=>osl eK 2 155 (some ⟨bs,0,none⟩) ms.length z.2::allP rwP (z.2.take z.1)::isl eK 2 ad ms::allP rwP ms::L) (fun z=>ms.length - z.1) (0,List.replicate ms.length rw0) ⟨ao _,by simp,by simp⟩ aj ?_ ?_
 ·dsimp only;rw[ce];refine(Ent.e7 rwP).trans ?_;exact ag
 rintro⟨i,zs⟩ ⟨hi,hzl,hze⟩;dsimp only at hi hzl hze ⊢;by_cases hlt:i<ms.length
 case neg =>
  have hie:i=ms.length:=ac;subst hie;rw[aD ac,aD ac] at hze;rw[aD (show zs.length≤ms.length by omega)];repeat first|refine aa ?_|intro
  refine KX.d7 ai (Ent.freezeSl) ⟨some ⟨bs,0,none⟩,ms.length,zs,by rw[hzl];rfl,hze,rfl⟩
 have hii:(i:Int).toNat=i:=ac;have hmm:ms[i]!∈ms:=aI hlt;repeat first|refine aa ?_|intro
 rw[hii];refine GO.ent (Ent.at (A:=allP rwP ms) (Ent.d9 (x:=ms[i]!) hmm)) ?_;refine GO.ef (Ef.d9 rfl rfl (zk ms[i]! (hp _ hmm))) ae ?_;rintro _ _⟨m',rfl,hm',rfl⟩;repeat first|refine aa ?_|intro
 refine GO.efu (Ef.e9 (e:=m') rfl rfl (by rfl) (by rfl) (ug _) ac) ?_;rintro _ _ rfl;rw[hii];repeat first|refine aa ?_|intro
 refine⟨(i+1,zs.set i m'),⟨by dsimp only;omega,by dsimp only;simp;omega,?_⟩,by dsimp only;omega,?_,?_⟩
 ·dsimp only;rw[dP ac,aC hlt,aZ,aZ,hze,←getElem!_of hlt];simp[hm']
 ·dsimp only;rw[aP i];exact aj
 ·dsimp only;rw[dP ac];refine Ent.d7 ?_;refine Ent.trans (B:=allP rwP (zs.take i)::rwP m'::isl eK 2 ad ms::allP rwP ms::L) ag ?_;exact(Ent.d7 (Ent.g7 nE)).trans (Ent.g8 nE)
structure TbM where
 name:ByteArray
 rows:List RwM
 deriving Inhabited
structure TbV where
 name:ByteArray
 rows:List RwV
 ad:OA
 cap:Nat
 deriving Inhabited
def TbV.m(t:TbV):TbM:=⟨t.name,t.rows.map RwV.m⟩
def cj(t:TbV):LV:=[.string t.name,.slice t.ad t.rows.length t.cap]
theorem uf(t:TbV):∀u∈cj t,u.oneCell' = true:=by simp[cj,Value.oneCell']
instance:EncC cj:=⟨uf⟩
def tbP(t:TbV):HP:=andP (isl eK 2 t.ad t.rows) (allP rwP t.rows)
theorem jS(t:TbV):PersM (tbP t):=(bT _ _ _ _).and (cQ nE)
def tb0:TbV:=⟨⟨#[]⟩,[],none,0⟩
def TbV.B(t:TbV):Prop:=t.rows.length≤64∧∀r∈t.rows,RwV.B r
theorem zj{L:LH}(t:TbV)(hb:t.B) :
  Tri ah 120 #[.agg (cj t).toArray] (tbP t::L) (fun v L'=>∃t',v=.agg (cj t').toArray∧t'.m=t.m∧L' = tbP t'::tbP t::L):=by
 obtain⟨name,rows,ad,cap⟩:=t;obtain⟨hb1,hb2⟩:=hb;dsimp only at hb1 hb2;refine Tri.body (args:=[.agg (cj ⟨name,rows,ad,cap⟩).toArray]) 8 JX Tryz.func120 rfl rfl rfl (by simp) ?_;refine G.ent ((Ent.dup (jS _).pers).trans Ent.andE) ?_;repeat first|refine aa ?_|intro
 refine GO.ent (Ent.at (A:=isl eK 2 ad rows) (Ent.d7 (Ent.at (A:=allP rwP rows) (Ent.refl _)))) ?_;refine GO.ef (Ef.d7 (zg ad cap rows hb1 hb2) rfl) ae ?_;rintro _ _⟨ad',c',rows',rfl,hrows,rfl⟩;repeat first|refine aa ?_|intro
 refine KX.d7 (by exact ResOk.cell rfl (by rfl) (ResOk.nil)) ?_ ⟨⟨name,rows',ad',c'⟩,rfl,by simp only[TbV.m,hrows],rfl⟩;refine Ent.trans (B:=isl eK 2 ad' rows'::allP rwP rows'::tbP ⟨name,rows,ad,cap⟩::L) ag ?_;exact Ent.f7 (bT _ _ _ _) (cQ nE)
theorem zf{L:LH}(ad:OA)(c:Nat)(ms:List TbV)(hl:ms.length≤64)(hp:∀m∈ms,TbV.B m) :
  Tri ah 119 #[.slice ad ms.length c,.func (.func 120) #[] #[]] (isl cj 2 ad ms::allP tbP ms::L) (fun v L'=>∃ad' c' ms',v=.slice ad' ms'.length c'∧ms'.map TbV.m=ms.map TbV.m∧L' = isl cj 2 ad' ms'::allP tbP ms'::isl cj 2 ad ms::allP tbP ms::L):=by
 refine Tri.body (args:=[.slice ad ms.length c,.func (.func 120) #[] #[]]) 29 JY Tryz.func119 rfl rfl rfl (by simp) ?_;by_cases h0:ms.length=0
 ·have e:ms=[]:=aW h0;subst e;repeat first|refine aa ?_|intro
  exact KX.d7 ai ((Ent.e7 tbP).trans (Ent.e9 cj 2 none)) ⟨none,0,[],rfl,rfl,rfl⟩
 repeat first|refine aa ?_|intro
 refine GO.ef (Ef.g7 cj tb0 rfl rfl rfl ac ac ac ac) ae ?_;rintro _ _⟨bs,rfl,rfl⟩;rw[show(ms.length:Int).toNat=ms.length by omega];repeat first|refine aa ?_|intro
 refine G.loop (α:=Nat×List TbV) (fun z=>z.1≤ms.length∧z.2.length=ms.length∧(z.2.take z.1).map TbV.m=(ms.take z.1).map TbV.m) (fun z=>[(1,.func (.func 120) #[] #[]),(5,.slice (some ⟨bs,0,none⟩) ms.length ms.length),(14,.slice ad ms.length c),(15,ab (ms.length:Int)),(16,ab (z.1:Int))])
  (fun z=>osl cj 2 153 (some ⟨bs,0,none⟩) ms.length z.2::allP tbP (z.2.take z.1)::isl cj 2 ad ms::allP tbP ms::L) (fun z=>ms.length - z.1) (0,List.replicate ms.length tb0) ⟨ao _,by simp,by simp⟩ aj ?_ ?_
 ·dsimp only;rw[ce];refine(Ent.e7 tbP).trans ?_;exact ag
 rintro⟨i,zs⟩ ⟨hi,hzl,hze⟩;dsimp only at hi hzl hze ⊢;by_cases hlt:i<ms.length
 case neg =>
  have hie:i=ms.length:=ac;subst hie;rw[aD ac,aD ac] at hze;rw[aD (show zs.length≤ms.length by omega)];repeat first|refine aa ?_|intro
  refine KX.d7 ai (Ent.freezeSl) ⟨some ⟨bs,0,none⟩,ms.length,zs,by rw[hzl];rfl,hze,rfl⟩
 have hii:(i:Int).toNat=i:=ac;have hmm:ms[i]!∈ms:=aI hlt;repeat first|refine aa ?_|intro
 rw[hii];refine GO.ent (Ent.at (A:=allP tbP ms) (Ent.d9 (x:=ms[i]!) hmm)) ?_;refine GO.ef (Ef.d9 rfl rfl (zj ms[i]! (hp _ hmm))) ae ?_;rintro _ _⟨m',rfl,hm',rfl⟩;repeat first|refine aa ?_|intro
 refine GO.efu (Ef.e9 (e:=m') rfl rfl (by rfl) (by rfl) (uf _) ac) ?_;rintro _ _ rfl;rw[hii];repeat first|refine aa ?_|intro
 refine⟨(i+1,zs.set i m'),⟨by dsimp only;omega,by dsimp only;simp;omega,?_⟩,by dsimp only;omega,?_,?_⟩
 ·dsimp only;rw[dP ac,aC hlt,aZ,aZ,hze,←getElem!_of hlt];simp[hm']
 ·dsimp only;rw[aP i];exact aj
 ·dsimp only;rw[dP ac];refine Ent.d7 ?_;refine Ent.trans (B:=allP tbP (zs.take i)::tbP m'::isl cj 2 ad ms::allP tbP ms::L) ag ?_;exact(Ent.d7 (Ent.g7 jS)).trans (Ent.g8 jS)
structure TxM where
 name:ByteArray
 brs:List (Int×Int)
 deriving Inhabited
structure TxV where
 name:ByteArray
 brs:List (Int×Int)
 ad:OA
 cap:Nat
 deriving Inhabited
def TxV.m(t:TxV):TxM:=⟨t.name,t.brs⟩
def cq(t:TxV):LV:=[.string t.name,.slice t.ad t.brs.length t.cap]
theorem ue(t:TxV):∀u∈cq t,u.oneCell' = true:=by simp[cq,Value.oneCell']
instance:EncC cq:=⟨ue⟩
def txP(t:TxV):HP:=isl bL 2 t.ad t.brs
theorem kT(t:TxV):PersM (txP t):=bT _ _ _ _
def tx0:TxV:=⟨⟨#[]⟩,[],none,0⟩
def TxV.B(t:TxV):Prop:=t.brs.length≤64
theorem wU{L:LH}(ad:OA)(n c:Nat)(xs:List (Int×Int))[Rds L ad (Int×Int) bL 2 xs](hn:n=xs.length)(hb:n≤1000000) :
  Tri ah 210 #[.slice ad n c] L (fun v L'=>∃ad' cap',v=.slice ad' xs.length cap'∧L' = osl bL 2 157 ad' cap' xs::L):=by
 refine Tri.body (args:=[.slice ad n c]) 8 Iy Tryz.func210 rfl rfl rfl (by simp) ?_;repeat' first|refine aa ?_|intro _|with_reducible refine CB.dec (fun _=>?_) (fun _=>?_)|with_reducible refine GB.dec (fun _=>?_) (fun _=>?_)|with_reducible refine CB.bool (fun _=>?_) (fun _=>?_)|with_reducible refine GB.bool (fun _=>?_) (fun _=>?_)
 ·have h:ad=none:=by assumption
  subst h;refine KX.f9 (.inl rfl) (ni (L:=L) (xs:=xs)) ?_;intro hx;subst hx;refine KX.d7 ai (Ent.d8 bL 2 157) ⟨_,_,rfl,rfl⟩
 ·refine GO.ent (Ent.e8 (enc:=bL) (sz:=2) (xs:=[]) rfl rfl (by simp) (by simp)) ?_;refine GO.ef (Ef.e7 rfl rfl rfl rfl hn (fun e _=>pj e) (by simp;omega) (by simp;omega)) ae ?_;rintro _ _⟨ad',cap',rfl,rfl⟩;repeat first|refine aa ?_|intro
  refine KX.d7 ai (Ent.refl _) ⟨ad',cap',rfl,rfl⟩
theorem zi{L:LH}(t:TxV)(hb:t.B) :
  Tri ah 122 #[.agg (cq t).toArray] (txP t::L) (fun v L'=>∃t',v=.agg (cq t').toArray∧t'.m=t.m∧L' = txP t'::txP t::L):=by
 obtain⟨name,brs,ad,cap⟩:=t;unfold TxV.B at hb;dsimp only at hb;refine Tri.body (args:=[.agg (cq ⟨name,brs,ad,cap⟩).toArray]) 8 JV Tryz.func122 rfl rfl rfl (by simp) ?_;simp only[txP];repeat first|refine aa ?_|intro
 refine GO.ef (Ef.d7 (wU ad brs.length cap brs rfl ac) rfl) ae ?_;rintro _ _⟨ad',cap',rfl,rfl⟩;repeat first|refine aa ?_|intro
 refine KX.d7 (by exact ResOk.cell rfl (by rfl) (ResOk.nil)) ?_ ⟨⟨name,brs,ad',cap'⟩,rfl,rfl,rfl⟩;refine(Ent.frz ad').trans ?_;exact ag
theorem ze{L:LH}(ad:OA)(c:Nat)(ms:List TxV)(hl:ms.length≤64)(hp:∀m∈ms,TxV.B m) :
  Tri ah 121 #[.slice ad ms.length c,.func (.func 122) #[] #[]] (isl cq 2 ad ms::allP txP ms::L) (fun v L'=>∃ad' c' ms',v=.slice ad' ms'.length c'∧ms'.map TxV.m=ms.map TxV.m∧L' = isl cq 2 ad' ms'::allP txP ms'::isl cq 2 ad ms::allP txP ms::L):=by
 refine Tri.body (args:=[.slice ad ms.length c,.func (.func 122) #[] #[]]) 29 JW Tryz.func121 rfl rfl rfl (by simp) ?_;by_cases h0:ms.length=0
 ·have e:ms=[]:=aW h0;subst e;repeat first|refine aa ?_|intro
  exact KX.d7 ai ((Ent.e7 txP).trans (Ent.e9 cq 2 none)) ⟨none,0,[],rfl,rfl,rfl⟩
 repeat first|refine aa ?_|intro
 refine GO.ef (Ef.g7 cq tx0 rfl rfl rfl ac ac ac ac) ae ?_;rintro _ _⟨bs,rfl,rfl⟩;rw[show(ms.length:Int).toNat=ms.length by omega];repeat first|refine aa ?_|intro
 refine G.loop (α:=Nat×List TxV) (fun z=>z.1≤ms.length∧z.2.length=ms.length∧(z.2.take z.1).map TxV.m=(ms.take z.1).map TxV.m) (fun z=>[(1,.func (.func 122) #[] #[]),(5,.slice (some ⟨bs,0,none⟩) ms.length ms.length),(14,.slice ad ms.length c),(15,ab (ms.length:Int)),(16,ab (z.1:Int))])
  (fun z=>osl cq 2 160 (some ⟨bs,0,none⟩) ms.length z.2::allP txP (z.2.take z.1)::isl cq 2 ad ms::allP txP ms::L) (fun z=>ms.length - z.1) (0,List.replicate ms.length tx0) ⟨ao _,by simp,by simp⟩ aj ?_ ?_
 ·dsimp only;rw[ce];refine(Ent.e7 txP).trans ?_;exact ag
 rintro⟨i,zs⟩ ⟨hi,hzl,hze⟩;dsimp only at hi hzl hze ⊢;by_cases hlt:i<ms.length
 case neg =>
  have hie:i=ms.length:=ac;subst hie;rw[aD ac,aD ac] at hze;rw[aD (show zs.length≤ms.length by omega)];repeat first|refine aa ?_|intro
  refine KX.d7 ai (Ent.freezeSl) ⟨some ⟨bs,0,none⟩,ms.length,zs,by rw[hzl];rfl,hze,rfl⟩
 have hii:(i:Int).toNat=i:=ac;have hmm:ms[i]!∈ms:=aI hlt;repeat first|refine aa ?_|intro
 rw[hii];refine GO.ent (Ent.at (A:=allP txP ms) (Ent.d9 (x:=ms[i]!) hmm)) ?_;refine GO.ef (Ef.d9 rfl rfl (zi ms[i]! (hp _ hmm))) ae ?_;rintro _ _⟨m',rfl,hm',rfl⟩;repeat first|refine aa ?_|intro
 refine GO.efu (Ef.e9 (e:=m') rfl rfl (by rfl) (by rfl) (ue _) ac) ?_;rintro _ _ rfl;rw[hii];repeat first|refine aa ?_|intro
 refine⟨(i+1,zs.set i m'),⟨by dsimp only;omega,by dsimp only;simp;omega,?_⟩,by dsimp only;omega,?_,?_⟩
 ·dsimp only;rw[dP ac,aC hlt,aZ,aZ,hze,←getElem!_of hlt];simp[hm']
 ·dsimp only;rw[aP i];exact aj
 ·dsimp only;rw[dP ac];refine Ent.d7 ?_;refine Ent.trans (B:=allP txP (zs.take i)::txP m'::isl cq 2 ad ms::allP txP ms::L) ag ?_;exact(Ent.d7 (Ent.g7 kT)).trans (Ent.g8 kT)
structure CatM where
 items:List ItG
 rules:List RuM
 tables:List TbM
 taxes:List TxM
structure CatV where
 items:List ItG
 iad:OA
 icap:Nat
 rules:List RuV
 rad:OA
 rcap:Nat
 tables:List TbV
 tad:OA
 tcap:Nat
 taxes:List TxV
 xad:OA
 xcap:Nat
def CatV.m(c:CatV):CatM:=⟨c.items,c.rules.map RuV.m,c.tables.map TbV.m,c.taxes.map TxV.m⟩
def CatV.cells(c:CatV):LV:=[.slice c.iad c.items.length c.icap,.slice c.rad c.rules.length c.rcap,.slice c.tad c.tables.length c.tcap,.slice c.xad c.taxes.length c.xcap]
def catI(c:CatV):HP:=isl bS 7 c.iad c.items
def catR(c:CatV):HP:=andP (isl bQ 9 c.rad c.rules) (allP ruP c.rules)
def catT(c:CatV):HP:=andP (isl cj 2 c.tad c.tables) (allP tbP c.tables)
def catX(c:CatV):HP:=andP (isl cq 2 c.xad c.taxes) (allP txP c.taxes)
def catP(c:CatV):HP:=andP (catI c) (andP (catR c) (andP (catT c) (catX c)))
theorem wV(c:CatV):PersM (catI c):=bT _ _ _ _
theorem pz(c:CatV):PersM (catR c):=(bT _ _ _ _).and (cQ iX)
theorem mo(c:CatV):PersM (catT c):=(bT _ _ _ _).and (cQ jS)
theorem mm(c:CatV):PersM (catX c):=(bT _ _ _ _).and (cQ kT)
theorem jQ(c:CatV):PersM (catP c):=(wV c).and ((pz c).and ((mo c).and (mm c)))
structure CatV.B (c:CatV):Prop where
 items:c.items.length≤64
 rules:c.rules.length≤64
 tables:c.tables.length≤64
 taxes:c.taxes.length≤64
 ru:∀r∈c.rules,RuV.B r
 tb:∀r∈c.tables,TbV.B r
 tx:∀r∈c.taxes,TxV.B r
abbrev CI:List Stp:=[.ev 0,.ev 1,.ev 3,.ev 4,.ev 6,.ev 7,.ev 9,.ev 10,.ef 2,.ef 5,.ef 8,.ef 11,.ev 12,.ef 13]
theorem hM{φ ψ:Prop}(k:ψ)(h:Hid ψ→φ:=by intro k;(with_reducible apply G.d8);first|refine G.d7 (N:=16) (id:=1) CI mixed ap (Hid.out k)):φ:=h ⟨k⟩
theorem uI{L:LH}(c:CatV)(hb:c.B) :
  Tri ah 63 #[.agg c.cells.toArray] (catP c::L) (fun v L'=>∃c',v=.agg c'.cells.toArray∧c'.m=c.m∧L' = catP c'::catP c::L):=by
 obtain⟨items,iad,icap,rules,rad,rcap,tables,tad,tcap,taxes,xad,xcap⟩:=c;obtain⟨hb1,hb2,hb3,hb4,hb5,hb6,hb7⟩:=hb;dsimp only at hb1 hb2 hb3 hb4 hb5 hb6 hb7;refine Tri.body (args:=[.agg (CatV.cells ⟨items,iad,icap,rules,rad,rcap,tables,tad,tcap,taxes,xad,xcap⟩).toArray]) 16 en63 Tryz.func63 rfl rfl rfl (by simp) ?_;refine G.ent ((Ent.dup (jQ _).pers).trans (Ent.andE.trans (Ent.d7 (Ent.andE.trans (Ent.d7 Ent.andE))))) ?_;simp only[catI,catR,catT,catX];refine G.ent (Ent.d7 (Ent.andE.trans (Ent.d7 (Ent.d7 (Ent.andE.trans (Ent.d7 (Ent.d7 Ent.andE))))))) ?_;repeat first|refine aa ?_|intro _|refine hM ?_
 refine GPW.ef (Ef.d7 (uL iad items.length icap items rfl ac) rfl) ae ?_;rintro _ _⟨iad',icap',rfl,rfl⟩;repeat first|refine aa ?_|intro _|refine hM ?_
 refine GPW.ent (Ent.at (A:=isl bQ 9 rad rules) (Ent.d7 (Ent.at (A:=allP ruP rules) (Ent.refl _)))) ?_;refine GPW.ef (Ef.d7 (zh rad rcap rules hb2 hb5) rfl) ae ?_;rintro _ _⟨rad',rcap',rules',rfl,hrules,rfl⟩;repeat first|refine aa ?_|intro _|refine hM ?_
 refine GPW.ent (Ent.at (A:=isl cj 2 tad tables) (Ent.d7 (Ent.at (A:=allP tbP tables) (Ent.refl _)))) ?_;refine GPW.ef (Ef.d7 (zf tad tcap tables hb3 hb6) rfl) ae ?_;rintro _ _⟨tad',tcap',tables',rfl,htables,rfl⟩;repeat first|refine aa ?_|intro _|refine hM ?_
 refine GPW.ent (Ent.at (A:=isl cq 2 xad taxes) (Ent.d7 (Ent.at (A:=allP txP taxes) (Ent.refl _)))) ?_;refine GPW.ef (Ef.d7 (ze xad xcap taxes hb4 hb7) rfl) ae ?_;rintro _ _⟨xad',xcap',taxes',rfl,htaxes,rfl⟩;repeat first|refine aa ?_|intro _|refine hM ?_
 refine KX.d7 (by exact ResOk.cell rfl (by rfl) (ResOk.nil)) ?_ ⟨⟨items,iad',icap',rules',rad',rcap',tables',tad',tcap',taxes',xad',xcap'⟩,rfl,by simp only[CatV.m,hrules,htables,htaxes],rfl⟩;refine(Ent.frz iad').trans ?_;refine Ent.trans (B:=isl bS 7 iad' items::isl bQ 9 rad' rules'::allP ruP rules'::isl cj 2 tad' tables'::allP tbP tables'::isl cq 2 xad' taxes'::allP txP taxes'::catP ⟨items,iad,icap,rules,rad,rcap,tables,tad,tcap,taxes,xad,xcap⟩::L) ag ?_;refine(Ent.d7 ((Ent.f7 (bT _ _ _ _) (cQ iX)).trans (Ent.d7 ((Ent.f7 (bT _ _ _ _) (cQ jS)).trans (Ent.d7 (Ent.f7 (bT _ _ _ _) (cQ kT))))))).trans ?_;refine(Ent.d7 (Ent.d7 (Ent.f7 ((bT _ _ _ _).and (cQ jS)) ((bT _ _ _ _).and (cQ kT))))).trans ?_;refine(Ent.d7 (Ent.f7 ((bT _ _ _ _).and (cQ iX)) (((bT _ _ _ _).and (cQ jS)).and ((bT _ _ _ _).and (cQ kT))))).trans ?_;exact Ent.f7 (bT _ _ _ _) (((bT _ _ _ _).and (cQ iX)).and (((bT _ _ _ _).and (cQ jS)).and ((bT _ _ _ _).and (cQ kT))))
end Go.Proofs.YtommnllbflbdmaaGreatDoor
namespace Go.V
def asl{α:Type}(enc:α→LV)(sz E:Nat)(ad:OA)(cap:Nat)(xs:List α):HP:=fun ι h =>
 osl enc sz E ad cap xs ι h∨((cap=xs.length∧xs.length≤maxLen)∧isl enc sz ad xs ι h)
class PickAsl (L:LH) (ad:OA) (α:outParam Type) (enc:outParam (α→LV)) (sz E:outParam Nat) (cap:outParam Nat) (xs:outParam (List α)) (R:outParam (LH)):Prop where
 perm:L.Perm (asl enc sz E ad cap xs::R)
instance {α:Type}(L:LH)(enc:α→LV)(sz E:Nat)(ad:OA)(cap:Nat)(xs:List α):PickAsl (asl enc sz E ad cap xs::L) ad α enc sz E cap xs L:=⟨List.Perm.refl _⟩
instance {α:Type}(A:HP)(L:LH)(enc:α→LV)(sz E:Nat)(ad:OA)(cap:Nat)(xs:List α)(R:LH)[h:PickAsl L ad α enc sz E cap xs R]:PickAsl (A::L) ad α enc sz E cap xs (A::R):=⟨(h.perm.cons A).trans (List.Perm.swap _ _ _)⟩
section
variable {α:Type}{θ:Th}{enc:α→LV}{sz E:Nat}{ad:OA}{cap:Nat}{xs:List α}{L:LH}{w:World}
theorem Sat.asl_cases(s:Sat θ (asl enc sz E ad cap xs::L) w):Sat θ (osl enc sz E ad cap xs::L) w∨((cap=xs.length∧xs.length≤maxLen)∧Sat θ (isl enc sz ad xs::L) w):=by
 obtain⟨ok,ι,h,a,b1,c,ι₀,h₁,h₂,d1,d2,d3,d4,e,d6⟩:=s;rcases e with e|⟨e1,e2⟩
 ·exact .inl ⟨ok,ι,h,a,b1,c,ι₀,h₁,h₂,d1,d2,d3,d4,e,d6⟩
 ·exact .inr ⟨e1,ok,ι,h,a,b1,c,ι₀,h₁,h₂,d1,d2,d3,d4,e2,d6⟩
theorem Ent.ofOsl:Ent (osl enc sz E ad cap xs::L) (asl enc sz E ad cap xs::L):=fun θ R w s=>by
 obtain⟨ok,ι,h,a,b1,c,ι₀,h₁,h₂,d1,d2,d3,d4,e,d6⟩:=s;exact⟨ok,ι,h,a,b1,c,ι₀,h₁,h₂,d1,d2,d3,d4,.inl e,d6⟩
theorem Ent.o7(hm:xs.length≤maxLen):Ent (isl enc sz ad xs::L) (asl enc sz E ad xs.length xs::L):=fun θ R w s=>by
 obtain⟨ok,ι,h,a,b1,c,ι₀,h₁,h₂,d1,d2,d3,d4,e,d6⟩:=s;exact⟨ok,ι,h,a,b1,c,ι₀,h₁,h₂,d1,d2,d3,d4,.inr ⟨⟨rfl,hm⟩,e⟩,d6⟩
theorem Sat.f9(s:Sat θ (asl enc sz E ad cap xs::L) w):RdSl w enc sz ad xs:=by
 rcases s.asl_cases with s|⟨_,s⟩
 ·exact s.osl_rd
 ·exact s.isl_rd
theorem zQ{R' : LH}[h:PickAsl L ad α enc sz E cap xs R']:∀θ R w,Sat θ (L++R) w→xs.length≤cap∧cap≤9223372036854775807:=fun θ R w s=>by
 rcases (s.perm (h.perm.append_right R)).asl_cases with s|⟨⟨e1,e2⟩,s⟩
 ·have:=s.osl_parts
  simp only[maxLen] at this;exact⟨this.2.1,ac⟩
 ·simp only[maxLen] at e2;omega
theorem Ent.m7:Ent (asl enc sz E ad cap xs::L) (isl enc sz ad xs::L):=fun θ R w s=>by
 rcases Sat.asl_cases (L:=L++R) s with s|⟨_,s⟩
 ·exact Ent.freezeSl θ R w s
 ·exact s
end
instance {α:Type}(L:LH)(enc:α→LV)(sz E:Nat)(ad:OA)(cap:Nat)(xs:List α):Rds (asl enc sz E ad cap xs::L) ad α enc sz xs:=⟨fun _ _ _ s=>Sat.f9 s⟩
section ops
variable {P:Program}{N:Nat}{env:Env}{L:LH}{ty:TypeId}
theorem Ef.m8{t:TypeId}{x y:Operand}{α:Type}{enc:α→LV}{b:Addr}{ad2:OA}{n c n2 c2 sz E bb:Nat}{xs ys:List α}{z:LV}[ht:TySl P t E sz bb z][hr:Rds L (some b) α enc sz xs][hq:Rds L ad2 α enc sz ys]
  (hx:evE env x=some (.slice (some b) n c)) (hy:evE env y=some (.slice ad2 n2 c2)) (hn:n=xs.length) (hc:c=xs.length) (hn2:n2=ys.length) (h0:0<ys.length) (hb:(xs.length+ys.length)*bb≤140737488355328) (hm:xs.length+ys.length≤9223372036854775807)
  : Ef P L env (.call { callee:=.builtin .append,args:=#[x,y],argTypes:=#[t,t] }) ty (fun v L'=>∃ad' cap',v=.slice ad' (xs++ys).length cap'∧L' = osl enc sz E ad' cap' (xs++ys)::L) :=
 Ef.val (fun θ R a w ea s dst pos af g=>by
  subst hn hc hn2;obtain⟨f1,f2⟩:=hr.rd θ R w s;obtain⟨g1,g2⟩:=hq.rd θ R w s;obtain⟨ii,z0,i1,i2,i3,i4,i5⟩:=ht.parts;rcases g2 with g2|⟨a2,rfl,g3⟩
  ·subst g2;simp at h0
  have hold:∀j u,(xs.flatMap enc)[j]? = some u→w.cell? (b.add j)=some u:=by
   rcases f2 with f2|⟨a1,e1,f3⟩
   ·subst f2;simp
   ·cases e1;exact f3
  obtain⟨v',w',hrun,ho,hg⟩:=run_append_arg_grows (P:=P) (w:=w) t ty E ii z0 sz bb ht.under i1 i2 i4 i5 (by rw[←ht.zlen,←i3];simp) ht.pos b xs.length xs.length (xs.flatMap enc) (eO f1) hold a2 ys.length c2 (ys.flatMap enc) (eO g1) g3 ac (by simp only[maxLen];omega) hb;obtain⟨hlen,ho⟩:=ho;rcases ho with⟨_,hn⟩|⟨g',cap',cur,rfl,hge,hgg,hnc,hcm,hcs,htake⟩
  ·omega
  have hdr:=oI _ hrun;have ok:θ.ok w':=⟨by rw[hg.tape];exact s.1.tape,by rw[hg.os];exact s.1.os,by rw[hg.output];exact s.1.output,cB s.1.drawn hdr⟩
  have hall:∀x∈xs++ys,(enc x).length=sz:=fun x hx=>by
   rcases List.mem_append.1 hx with hx|hx
   ·exact f1 x hx
   ·exact g1 x hx
  have hl2:(xs++ys).length=xs.length+ys.length:=by simp
  have s2:Sat θ (own g' (.cells cur E (0,0))::(L++R)) w':=s.fresh ok hge hgg (fun k x hk=>by rw[hg.block k (Array.getElem?_eq_some_iff.1 hk).1 (by simp)];exact hk);have s3:=Sat.osl_mk (cap:=cap') s2 hall ac hcm hcs (by rw[hl2,htake];simp);refine⟨_,w',_,?_,⟨some ⟨g',0,none⟩,cap',by rw[hl2],rfl⟩,s3⟩;simp[execOp,resolve,invoke,builtin,aO ea hx,aO ea hy,hrun])
theorem Ef.m6{t:TypeId}{x y:Operand}{α:Type}{enc:α→LV}{ad ad2:OA}{n c n2 c2 sz E bb cap:Nat}{xs ys:List α}{z:LV}{R1:LH}[ht:TySl P t E sz bb z][hp:PickAsl L ad α enc sz E cap xs R1][hq:Rds R1 ad2 α enc sz ys]
  (hx:evE env x=some (.slice ad n c)) (hy:evE env y=some (.slice ad2 n2 c2)) (hn:n=xs.length) (hc:c=cap) (hn2:n2=ys.length) (h0:0<ys.length) (h1:∀e∈ys,∀u∈enc e,u.oneCell' = true) (hb:(xs.length+ys.length)*bb≤140737488355328) (hm:xs.length+ys.length≤9223372036854775807)
  : Ef P L env (.call { callee:=.builtin .append,args:=#[x,y],argTypes:=#[t,t] }) ty (fun v L'=>∃ad' cap',v=.slice ad' (xs++ys).length cap'∧L' = asl enc sz E ad' cap' (xs++ys)::R1):=by
 intro θ R a w o next Q ha s e1 e2 hnx
 have s1:=s.perm (hp.perm.append_right R)
 have own:∀{ad:OA} {cap n c:Nat},evE env x=some (.slice ad n c)→n=xs.length→c=cap→Sat θ (osl enc sz E ad cap xs::R1++R) w→Oper.wp P o a w next Q:=fun hx hn hc s2 =>
  Ef.e7 (L:=osl enc sz E _ _ xs::R1) (R1:=R1) (P:=P) (ty:=ty) (t:=t) hx hy hn hc hn2 h1 hb hm θ R a w o next Q ha s2 e1 e2 (fun v L' w' ⟨ad',cap',q1,q2⟩ s'=>hnx v _ w' ⟨ad',cap',q1,rfl⟩ (by subst q2;exact Ent.ofOsl θ R w' s'))
 rcases Sat.asl_cases (L:=R1++R) s1 with s2|⟨⟨hcap,hml⟩,s2⟩
 ·exact own hx hn hc s2
 ·cases ad with
  | none =>
   have h3:=s2.isl_rd.2
   have hnil:xs=[]:=by
    rcases h3 with h3|⟨a',ha',_⟩
    ·exact h3
    ·cases ha'
   have hz:cap=0:=by rw[hcap,hnil];rfl
   subst hz;refine own hx hn hc ?_;rw[hnil];exact Sat.e9 enc sz E s2.tail
  | some b =>
   exact Ef.m8 (L:=isl enc sz (some b) xs::R1) (E:=E) (P:=P) (ty:=ty) (t:=t) (xs:=xs) hx hy hn (hc.trans hcap) hn2 h0 hb hm θ R a w o next Q ha s2 e1 e2 (fun v L' w' ⟨ad',cap',q1,q2⟩ s'=>hnx v _ w' ⟨ad',cap',q1,rfl⟩ (by
    subst q2;exact Ent.ofOsl θ R w' (s'.perm (List.Perm.swap _ _ _)).tail))
theorem Ef.l8{t:TypeId}{x y:Operand}{α:Type}{enc:α→LV}{ad:OA}{n c sz E bb cap b T:Nat}{xs:List α}{z cs:LV}{R1 R2:LH}(e:α)[ht:TySl P t E sz bb z][hp:PickAsl L ad α enc sz E cap xs R1][hq:PickObj R1 b T cs R2]
  (hx:evE env x=some (.slice ad n c)) (hy:evE env y=some (.slice (some ⟨b,0,none⟩) 1 1)) (he:cs=enc e) (hn:n=xs.length) (hc:c=cap) (hs:cs.length=sz) (h1:∀u∈cs,u.oneCell' = true) (hb:(xs.length+1)*bb≤140737488355328) (hm:xs.length+1≤9223372036854775807)
  : Ef P L env (.call { callee:=.builtin .append,args:=#[x,y],argTypes:=#[t,t] }) ty (fun v L'=>∃ad' cap',v=.slice ad' (xs++[e]).length cap'∧L' = asl enc sz E ad' cap' (xs++[e])::R2):=by
 subst he
 have hrd:Rds R1 (some ⟨b,0,none⟩) α enc sz [e]:=⟨fun θ R w s=>by
  have hb:=Sat.obj_heap (R:=R) s hq.perm;refine⟨fun y hy=>by rw[List.mem_singleton.1 hy];exact hs,.inr ⟨_,rfl,fun i v hv=>?_⟩⟩;rw[gd,el hb];simpa using hv⟩
 intro θ R a w o next Q ha s e1 e2 hnx
 refine Ef.m6 (P:=P) (ty:=ty) (t:=t) (hp:=hp) (hq:=hrd) hx hy hn hc rfl (Nat.zero_lt_one) (fun y hy u hu=>by rw[List.mem_singleton.1 hy] at hu;exact h1 u hu) (by simpa using hb) (by simpa using hm) θ R a w o next Q ha s e1 e2 (fun v L' w' ⟨ad',cap',q1,q2⟩ s'=>hnx v _ w' ⟨ad',cap',q1,rfl⟩ ?_)
 subst q2;have s3:Sat θ (asl enc sz E ad' cap' (xs++[e])::(obj b T (enc e)::R2++R)) w':=s'.perm ((hq.perm.append_right R).cons _);exact(s3.perm (List.Perm.swap _ _ _)).tail
