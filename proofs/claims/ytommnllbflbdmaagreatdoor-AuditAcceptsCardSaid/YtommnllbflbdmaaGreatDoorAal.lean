/- Lemmas. -/
import Derived.Test.YtommnllbflbdmaaGreatDoorAak
import Derived.ArgAppend
set_option linter.all false
set_option maxHeartbeats 1000000
namespace Go.Proofs.YtommnllbflbdmaaGreatDoor
open Go.V
attribute [local irreducible] G GO GP GPW GPK Ev Ef EfR Ent CB GB Enters
structure AmS where
 l:List (Int×Int)
 ad:OA
 cap:Nat
 deriving Inhabited
def AmS.v(a:AmS):Value:=ah a.ad a.l.length a.cap
abbrev amS(a:AmS):HP:=isl cw 2 a.ad a.l
def jY(a:AmS):PersM (amS a):=bN _ _ _ _
def lv{L:LH}(ad:OA)(n c:Nat)(xs:List (Int×Int))[Rds L ad (Int×Int) cw 2 xs](hn:n=xs.length)(hb:n≤1000000) :
  Tri ai 207 #[ah ad n c] L (fun v L'=>∃a1 a0,v=ah a1 xs.length a0∧L' = osl cw 2 81 a1 a0 xs::L):=by
 refine Tri.bd ?_;repeat' first|refine aa ?_|intro _|with_reducible refine CB.dec (fun _=>?_) (fun _=>?_)|with_reducible refine GB.dec (fun _=>?_) (fun _=>?_)|with_reducible refine CB.bool (fun _=>?_) (fun _=>?_)|with_reducible refine GB.bool (fun _=>?_) (fun _=>?_)
 ·have h:ad=none:=by assumption
  subst h;refine KX.l0 (.inl rfl) (oh (L:=L) (xs:=xs)) ?_;intro hx;subst hx;refine KX.d7 al (Ent.d8 cw 2 81) ⟨_,_,rfl,rfl⟩
 ·refine GO.ent (Ent.f7 (enc:=cw) (sz:=2) (xs:=[]) rfl rfl bZ bZ) ?_;refine GO.ef (Ef.g8 rfl rfl rfl rfl hn (fun e _=>qC e) fW fW) ag ?_;rintro _ _⟨a1,a0,rfl,rfl⟩;refine Jq ?_;intros;refine KX.d7 al (Ent.refl _) ⟨a1,a0,rfl,rfl⟩
structure ItG where
 name:ByteArray
 obj:Bool
 mixed:Bool
 coin:Bool
 wear:Int
 bind:Int
 level:Int
 deriving Inhabited
def dE(i:ItG):LV:=[.string i.name,.bool i.obj,.bool i.mixed,.bool i.coin,ac i.wear,ac i.bind,ac i.level]
def tT(t:ItG):∀u∈dE t,u.oneCell' = true:=by simp[dE,Value.oneCell']
instance:EncC dE:=⟨tT⟩
def wb{L:LH}(ad:OA)(n c:Nat)(xs:List ItG)[Rds L ad ItG dE 7 xs](hn:n=xs.length)(hb:n≤1000000) :
  Tri ai 116 #[ah ad n c] L (fun v L'=>∃a1 a0,v=ah a1 xs.length a0∧L' = osl dE 7 147 a1 a0 xs::L):=by
 refine Tri.bd ?_;repeat' first|refine aa ?_|intro _|with_reducible refine CB.dec (fun _=>?_) (fun _=>?_)|with_reducible refine GB.dec (fun _=>?_) (fun _=>?_)|with_reducible refine CB.bool (fun _=>?_) (fun _=>?_)|with_reducible refine GB.bool (fun _=>?_) (fun _=>?_)
 ·have h:ad=none:=by assumption
  subst h;refine KX.l0 (.inl rfl) (oh (L:=L) (xs:=xs)) ?_;intro hx;subst hx;refine KX.d7 al (Ent.d8 dE 7 147) ⟨_,_,rfl,rfl⟩
 ·refine GO.ent (Ent.f7 (enc:=dE) (sz:=7) (xs:=[]) rfl rfl bZ bZ) ?_;refine GO.ef (Ef.g8 rfl rfl rfl rfl hn (fun e _=>tT e) fW fW) ag ?_;rintro _ _⟨a1,a0,rfl,rfl⟩;refine Jq ?_;intros;refine KX.d7 al (Ent.refl _) ⟨a1,a0,rfl,rfl⟩
structure RuM where
 name:ByteArray
 spawn:Bool
 level:Int
 time:Int
 chance:Int
 of_:Int
 take:List (Int×Int)
 give:List (Int×Int)
 back:List (Int×Int)
 deriving Inhabited
structure RuV where
 name:ByteArray
 spawn:Bool
 level:Int
 time:Int
 chance:Int
 of_:Int
 take:AmS
 give:AmS
 back:AmS
 deriving Inhabited
def RuV.m(r:RuV):RuM:=⟨r.name,r.spawn,r.level,r.time,r.chance,r.of_,r.take.l,r.give.l,r.back.l⟩
def cY(r:RuV):LV:=[.string r.name,.bool r.spawn,ac r.level,ac r.time,ac r.chance,ac r.of_,ah r.take.ad r.take.l.length r.take.cap,ah r.give.ad r.give.l.length r.give.cap,ah r.back.ad r.back.l.length r.back.cap]
def vE(t:RuV):∀u∈cY t,u.oneCell' = true:=by simp[cY,Value.oneCell']
instance:EncC cY:=⟨vE⟩
def ruP(r:RuV):HP:=andP (amS r.take) (andP (amS r.give) (amS r.back))
def jH(r:RuV):PersM (ruP r):=(jY _).and ((jY _).and (jY _))
def ru0:RuV:=⟨⟨#[]⟩,false,0,0,0,0,⟨[],none,0⟩,⟨[],none,0⟩,⟨[],none,0⟩⟩
def RuV.B(r:RuV):Prop:=r.take.l.length≤64∧r.give.l.length≤64∧r.back.l.length≤64
abbrev CR:List Stp:=[.ev 0,.ev 1,.ev 3,.ev 4,.ev 6,.ev 7,.ef 2,.ev 9,.ef 5,.ef 8,.ef 10,.ev 11,.ef 12,.ev 13,.ef 14]
def JA{φ ψ:Prop}(k:ψ)(h:Hid ψ→φ:=by intro k;(repeat (first|refine aa ?_|intro zzz|refine G.dr 16 1 CR ?_));(repeat revert zzz);exact Hid.out k):φ:=h ⟨k⟩
def Bk{L:LH}(r:RuV)(hb:r.B) :
  Tri ai 118 #[aN (cY r)] (ruP r::L) (fun v L'=>∃r',v=aN (cY r')∧r'.m=r.m∧L' = ruP r'::ruP r::L):=by
 obtain⟨name,spawn,level,time,chance,of_,⟨tl,tad,tcap⟩,⟨gl,a8,a3⟩,⟨bl,a9,a4⟩⟩:=r;obtain⟨b2,b1,b0⟩:=hb;dsimp only at b2 b1 b0;refine Tri.bd (args:=[aN (cY ⟨name,spawn,level,time,chance,of_,⟨tl,tad,tcap⟩,⟨gl,a8,a3⟩,⟨bl,a9,a4⟩⟩)]) ?_;refine G.ent ((Ent.dup (jH _).pers).trans (Ent.andE.trans (Ent.d7 Ent.andE))) ?_;simp only[amS];refine JA ?_;intros;refine GPW.ca (lv tad tl.length tcap tl rfl ab) ?_;rintro _ _⟨a5,a0,rfl,rfl⟩;refine JA ?_;intros;refine GPW.ca (lv a8 gl.length a3 gl rfl ab) ?_;rintro _ _⟨a7,a2,rfl,rfl⟩;refine JA ?_;intros;refine GPW.ca (lv a9 bl.length a4 bl rfl ab) ?_;rintro _ _⟨a6,a1,rfl,rfl⟩;refine JA ?_;intros;refine KX.d7 (by exact ResOk.cell rfl aK (ResOk.nil)) ?_ ⟨⟨name,spawn,level,time,chance,of_,⟨tl,a5,a0⟩,⟨gl,a7,a2⟩,⟨bl,a6,a1⟩⟩,rfl,rfl,rfl⟩;refine(Ent.frz a6).trans ((Ent.d7 (Ent.frz a7)).trans ((Ent.d7 (Ent.d7 (Ent.frz a5))).trans ?_));refine Ent.trans (B:=amS ⟨tl,a5,a0⟩::amS ⟨gl,a7,a2⟩::amS ⟨bl,a6,a1⟩::ruP ⟨name,spawn,level,time,chance,of_,⟨tl,tad,tcap⟩,⟨gl,a8,a3⟩,⟨bl,a9,a4⟩⟩::L) (by simp only[amS];exact ae) ?_;exact(Ent.d7 (Ent.e9 (jY _) (jY _))).trans (Ent.e9 (jY _) ((jY _).and (jY _)))
def Bg{L:LH}(ad:OA)(c:Nat)(ms:List RuV)(hl:ms.length≤64)(hp:∀m∈ms,RuV.B m) :
  Tri ai 117 #[ah ad ms.length c,.func (.func 118) #[] #[]] (isl cY 9 ad ms::allP ruP ms::L) (fun v L'=>∃a3 c' a0,v=ah a3 a0.length c'∧a0.map RuV.m=ms.map RuV.m∧L' = isl cY 9 a3 a0::allP ruP a0::isl cY 9 ad ms::allP ruP ms::L):=by
 refine Tri.bd ?_;by_cases h0:ms.length=0
 ·have e:ms=[]:=aX h0;subst e;refine Jq ?_;intros;exact KX.d7 al ((Ent.d9 ruP).trans (Ent.e8 cY 9 none)) ⟨none,0,[],rfl,rfl,rfl⟩
 refine Jq ?_;intros;refine GO.ef (Ef.e9 cY ru0 rfl rfl rfl ab ab ab ab) ag ?_;rintro _ _⟨bs,rfl,rfl⟩;rw[show(ms.length:Int).toNat=ms.length by omega];refine Jq ?_;intros
 refine G.loop (α:=Nat×List RuV) (fun z=>z.1≤ms.length∧z.2.length=ms.length∧(z.2.take z.1).map RuV.m=(ms.take z.1).map RuV.m) (fun z=>[(1,.func (.func 118) #[] #[]),(5,ah (some ⟨bs,0,none⟩) ms.length ms.length),(14,ah ad ms.length c),(15,ac (ms.length:Int)),(16,ac (z.1:Int))])
  (fun z=>osl cY 9 79 (some ⟨bs,0,none⟩) ms.length z.2::allP ruP (z.2.take z.1)::isl cY 9 ad ms::allP ruP ms::L) (fun z=>ms.length - z.1) (0,List.replicate ms.length ru0) ⟨aw _,by simp,by simp⟩ av ?_ ?_
 ·dsimp only;rw[bH];refine(Ent.d9 ruP).trans ?_;exact ae
 rintro⟨i,zs⟩ ⟨hi,a4,a1⟩;dsimp only at hi a4 a1 ⊢;by_cases a2:i<ms.length
 case neg =>
  have a7:i=ms.length:=ab;subst a7;rw[aF ab,aF ab] at a1;rw[aF (ab:zs.length≤ms.length)];refine Jq ?_;intros;refine KX.d7 al (Ent.freezeSl) ⟨some ⟨bs,0,none⟩,ms.length,zs,by rw[a4];rfl,a1,rfl⟩
 have a6:(i:Int).toNat=i:=ab;have a5:ms[i]!∈ms:=aI a2;refine Jq ?_;intros;rw[a6];refine GO.ent (Ent.at (A:=allP ruP ms) (Ent.e7 (x:=ms[i]!) a5)) ?_;refine GO.ef (Ef.d8 rfl rfl (Bk ms[i]! (hp _ a5))) ag ?_;rintro _ _⟨m',rfl,a8,rfl⟩;refine Jq ?_;intros;refine GO.efu (Ef.e8 (e:=m') rfl rfl aK aK (vE _) ab) ?_;rintro _ _ rfl;rw[a6];refine Jq ?_;intros;refine⟨(i+1,zs.set i m'),⟨by dsimp only;omega,by dsimp only;simp;omega,?_⟩,by dsimp only;omega,?_,?_⟩
 ·dsimp only;rw[de ab,aD a2,aW,aW,a1,←getElem!_of a2];simp[a8]
 ·dsimp only;rw[aV i];exact av
 ·dsimp only;rw[de ab];refine Ent.d7 ?_;refine Ent.trans (B:=allP ruP (zs.take i)::ruP m'::isl cY 9 ad ms::allP ruP ms::L) ae ?_;exact(Ent.d7 (Ent.f8 jH)).trans (Ent.g7 jH)
structure RwM where
 weight:Int
 give:List (Int×Int)
 deriving Inhabited
structure RwV where
 weight:Int
 give:AmS
 deriving Inhabited
def RwV.m(r:RwV):RwM:=⟨r.weight,r.give.l⟩
def gi(r:RwV):LV:=[ac r.weight,ah r.give.ad r.give.l.length r.give.cap]
def vD(t:RwV):∀u∈gi t,u.oneCell' = true:=by simp[gi,Value.oneCell']
instance:EncC gi:=⟨vD⟩
abbrev rwP(r:RwV):HP:=amS r.give
def oJ(r:RwV):PersM (rwP r):=jY _
def rw0:RwV:=⟨0,⟨[],none,0⟩⟩
def RwV.B(r:RwV):Prop:=r.give.l.length≤64
def Bj{L:LH}(r:RwV)(hb:r.B) :
  Tri ai 209 #[aN (gi r)] (rwP r::L) (fun v L'=>∃r',v=aN (gi r')∧r'.m=r.m∧L' = rwP r'::rwP r::L):=by
 obtain⟨weight,⟨gl,a3,a2⟩⟩:=r;unfold RwV.B at hb;dsimp only at hb;refine Tri.bd (args:=[aN (gi ⟨weight,⟨gl,a3,a2⟩⟩)]) ?_;simp only[rwP,amS];refine Jq ?_;intros;refine GO.ca (lv a3 gl.length a2 gl rfl ab) ?_;rintro _ _⟨a1,a0,rfl,rfl⟩;refine Jq ?_;intros;refine KX.d7 (by exact ResOk.cell rfl aK (ResOk.nil)) ?_ ⟨⟨weight,⟨gl,a1,a0⟩⟩,rfl,rfl,rfl⟩;refine(Ent.frz a1).trans ?_;exact ae
def Bf{L:LH}(ad:OA)(c:Nat)(ms:List RwV)(hl:ms.length≤64)(hp:∀m∈ms,RwV.B m) :
  Tri ai 208 #[ah ad ms.length c,.func (.func 209) #[] #[]] (isl gi 2 ad ms::allP rwP ms::L) (fun v L'=>∃a3 c' a0,v=ah a3 a0.length c'∧a0.map RwV.m=ms.map RwV.m∧L' = isl gi 2 a3 a0::allP rwP a0::isl gi 2 ad ms::allP rwP ms::L):=by
 refine Tri.bd ?_;by_cases h0:ms.length=0
 ·have e:ms=[]:=aX h0;subst e;refine Jq ?_;intros;exact KX.d7 al ((Ent.d9 rwP).trans (Ent.e8 gi 2 none)) ⟨none,0,[],rfl,rfl,rfl⟩
 refine Jq ?_;intros;refine GO.ef (Ef.e9 gi rw0 rfl rfl rfl ab ab ab ab) ag ?_;rintro _ _⟨bs,rfl,rfl⟩;rw[show(ms.length:Int).toNat=ms.length by omega];refine Jq ?_;intros
 refine G.loop (α:=Nat×List RwV) (fun z=>z.1≤ms.length∧z.2.length=ms.length∧(z.2.take z.1).map RwV.m=(ms.take z.1).map RwV.m) (fun z=>[(1,.func (.func 209) #[] #[]),(5,ah (some ⟨bs,0,none⟩) ms.length ms.length),(14,ah ad ms.length c),(15,ac (ms.length:Int)),(16,ac (z.1:Int))])
  (fun z=>osl gi 2 155 (some ⟨bs,0,none⟩) ms.length z.2::allP rwP (z.2.take z.1)::isl gi 2 ad ms::allP rwP ms::L) (fun z=>ms.length - z.1) (0,List.replicate ms.length rw0) ⟨aw _,by simp,by simp⟩ av ?_ ?_
 ·dsimp only;rw[bH];refine(Ent.d9 rwP).trans ?_;exact ae
 rintro⟨i,zs⟩ ⟨hi,a4,a1⟩;dsimp only at hi a4 a1 ⊢;by_cases a2:i<ms.length
 case neg =>
  have a7:i=ms.length:=ab;subst a7;rw[aF ab,aF ab] at a1;rw[aF (ab:zs.length≤ms.length)];refine Jq ?_;intros;refine KX.d7 al (Ent.freezeSl) ⟨some ⟨bs,0,none⟩,ms.length,zs,by rw[a4];rfl,a1,rfl⟩
 have a6:(i:Int).toNat=i:=ab;have a5:ms[i]!∈ms:=aI a2;refine Jq ?_;intros;rw[a6];refine GO.ent (Ent.at (A:=allP rwP ms) (Ent.e7 (x:=ms[i]!) a5)) ?_;refine GO.ef (Ef.d8 rfl rfl (Bj ms[i]! (hp _ a5))) ag ?_;rintro _ _⟨m',rfl,a8,rfl⟩;refine Jq ?_;intros;refine GO.efu (Ef.e8 (e:=m') rfl rfl aK aK (vD _) ab) ?_;rintro _ _ rfl;rw[a6];refine Jq ?_;intros;refine⟨(i+1,zs.set i m'),⟨by dsimp only;omega,by dsimp only;simp;omega,?_⟩,by dsimp only;omega,?_,?_⟩
 ·dsimp only;rw[de ab,aD a2,aW,aW,a1,←getElem!_of a2];simp[a8]
 ·dsimp only;rw[aV i];exact av
 ·dsimp only;rw[de ab];refine Ent.d7 ?_;refine Ent.trans (B:=allP rwP (zs.take i)::rwP m'::isl gi 2 ad ms::allP rwP ms::L) ae ?_;exact(Ent.d7 (Ent.f8 oJ)).trans (Ent.g7 oJ)
structure TbM where
 name:ByteArray
 rows:List RwM
 deriving Inhabited
structure TbV where
 name:ByteArray
 rows:List RwV
 ad:OA
 cap:Nat
 deriving Inhabited
def TbV.m(t:TbV):TbM:=⟨t.name,t.rows.map RwV.m⟩
def eD(t:TbV):LV:=[.string t.name,ah t.ad t.rows.length t.cap]
def vC(t:TbV):∀u∈eD t,u.oneCell' = true:=by simp[eD,Value.oneCell']
instance:EncC eD:=⟨vC⟩
def tbP(t:TbV):HP:=andP (isl gi 2 t.ad t.rows) (allP rwP t.rows)
def kC(t:TbV):PersM (tbP t):=(bN _ _ _ _).and (cT oJ)
def tb0:TbV:=⟨⟨#[]⟩,[],none,0⟩
def TbV.B(t:TbV):Prop:=t.rows.length≤64∧∀r∈t.rows,RwV.B r
def Bi{L:LH}(t:TbV)(hb:t.B) :
  Tri ai 120 #[aN (eD t)] (tbP t::L) (fun v L'=>∃t',v=aN (eD t')∧t'.m=t.m∧L' = tbP t'::tbP t::L):=by
 obtain⟨name,rows,ad,cap⟩:=t;obtain⟨a3,a4⟩:=hb;dsimp only at a3 a4;refine Tri.bd (args:=[aN (eD ⟨name,rows,ad,cap⟩)]) ?_;refine G.ent ((Ent.dup (kC _).pers).trans Ent.andE) ?_;refine Jq ?_;intros;refine GO.ent (Ent.at (A:=isl gi 2 ad rows) (Ent.d7 (Ent.at (A:=allP rwP rows) (Ent.refl _)))) ?_;refine GO.ca (Bf ad cap rows a3 a4) ?_;rintro _ _⟨a2,c',a0,rfl,a1,rfl⟩;refine Jq ?_;intros;refine KX.d7 (by exact ResOk.cell rfl aK (ResOk.nil)) ?_ ⟨⟨name,a0,a2,c'⟩,rfl,by simp only[TbV.m,a1],rfl⟩;refine Ent.trans (B:=isl gi 2 a2 a0::allP rwP a0::tbP ⟨name,rows,ad,cap⟩::L) ae ?_;exact Ent.e9 (bN _ _ _ _) (cT oJ)
def Be{L:LH}(ad:OA)(c:Nat)(ms:List TbV)(hl:ms.length≤64)(hp:∀m∈ms,TbV.B m) :
  Tri ai 119 #[ah ad ms.length c,.func (.func 120) #[] #[]] (isl eD 2 ad ms::allP tbP ms::L) (fun v L'=>∃a3 c' a0,v=ah a3 a0.length c'∧a0.map TbV.m=ms.map TbV.m∧L' = isl eD 2 a3 a0::allP tbP a0::isl eD 2 ad ms::allP tbP ms::L):=by
 refine Tri.bd ?_;by_cases h0:ms.length=0
 ·have e:ms=[]:=aX h0;subst e;refine Jq ?_;intros;exact KX.d7 al ((Ent.d9 tbP).trans (Ent.e8 eD 2 none)) ⟨none,0,[],rfl,rfl,rfl⟩
 refine Jq ?_;intros;refine GO.ef (Ef.e9 eD tb0 rfl rfl rfl ab ab ab ab) ag ?_;rintro _ _⟨bs,rfl,rfl⟩;rw[show(ms.length:Int).toNat=ms.length by omega];refine Jq ?_;intros
 refine G.loop (α:=Nat×List TbV) (fun z=>z.1≤ms.length∧z.2.length=ms.length∧(z.2.take z.1).map TbV.m=(ms.take z.1).map TbV.m) (fun z=>[(1,.func (.func 120) #[] #[]),(5,ah (some ⟨bs,0,none⟩) ms.length ms.length),(14,ah ad ms.length c),(15,ac (ms.length:Int)),(16,ac (z.1:Int))])
  (fun z=>osl eD 2 153 (some ⟨bs,0,none⟩) ms.length z.2::allP tbP (z.2.take z.1)::isl eD 2 ad ms::allP tbP ms::L) (fun z=>ms.length - z.1) (0,List.replicate ms.length tb0) ⟨aw _,by simp,by simp⟩ av ?_ ?_
 ·dsimp only;rw[bH];refine(Ent.d9 tbP).trans ?_;exact ae
 rintro⟨i,zs⟩ ⟨hi,a4,a1⟩;dsimp only at hi a4 a1 ⊢;by_cases a2:i<ms.length
 case neg =>
  have a7:i=ms.length:=ab;subst a7;rw[aF ab,aF ab] at a1;rw[aF (ab:zs.length≤ms.length)];refine Jq ?_;intros;refine KX.d7 al (Ent.freezeSl) ⟨some ⟨bs,0,none⟩,ms.length,zs,by rw[a4];rfl,a1,rfl⟩
 have a6:(i:Int).toNat=i:=ab;have a5:ms[i]!∈ms:=aI a2;refine Jq ?_;intros;rw[a6];refine GO.ent (Ent.at (A:=allP tbP ms) (Ent.e7 (x:=ms[i]!) a5)) ?_;refine GO.ef (Ef.d8 rfl rfl (Bi ms[i]! (hp _ a5))) ag ?_;rintro _ _⟨m',rfl,a8,rfl⟩;refine Jq ?_;intros;refine GO.efu (Ef.e8 (e:=m') rfl rfl aK aK (vC _) ab) ?_;rintro _ _ rfl;rw[a6];refine Jq ?_;intros;refine⟨(i+1,zs.set i m'),⟨by dsimp only;omega,by dsimp only;simp;omega,?_⟩,by dsimp only;omega,?_,?_⟩
 ·dsimp only;rw[de ab,aD a2,aW,aW,a1,←getElem!_of a2];simp[a8]
 ·dsimp only;rw[aV i];exact av
 ·dsimp only;rw[de ab];refine Ent.d7 ?_;refine Ent.trans (B:=allP tbP (zs.take i)::tbP m'::isl eD 2 ad ms::allP tbP ms::L) ae ?_;exact(Ent.d7 (Ent.f8 kC)).trans (Ent.g7 kC)
structure TxM where
 name:ByteArray
 brs:List (Int×Int)
 deriving Inhabited
structure TxV where
 name:ByteArray
 brs:List (Int×Int)
 ad:OA
 cap:Nat
 deriving Inhabited
def TxV.m(t:TxV):TxM:=⟨t.name,t.brs⟩
def eC(t:TxV):LV:=[.string t.name,ah t.ad t.brs.length t.cap]
def vB(t:TxV):∀u∈eC t,u.oneCell' = true:=by simp[eC,Value.oneCell']
instance:EncC eC:=⟨vB⟩
def txP(t:TxV):HP:=isl cw 2 t.ad t.brs
def lO(t:TxV):PersM (txP t):=bN _ _ _ _
def tx0:TxV:=⟨⟨#[]⟩,[],none,0⟩
def TxV.B(t:TxV):Prop:=t.brs.length≤64
def yG{L:LH}(ad:OA)(n c:Nat)(xs:List (Int×Int))[Rds L ad (Int×Int) cw 2 xs](hn:n=xs.length)(hb:n≤1000000) :
  Tri ai 210 #[ah ad n c] L (fun v L'=>∃a1 a0,v=ah a1 xs.length a0∧L' = osl cw 2 157 a1 a0 xs::L):=by
 refine Tri.bd ?_;repeat' first|refine aa ?_|intro _|with_reducible refine CB.dec (fun _=>?_) (fun _=>?_)|with_reducible refine GB.dec (fun _=>?_) (fun _=>?_)|with_reducible refine CB.bool (fun _=>?_) (fun _=>?_)|with_reducible refine GB.bool (fun _=>?_) (fun _=>?_)
 ·have h:ad=none:=by assumption
  subst h;refine KX.l0 (.inl rfl) (oh (L:=L) (xs:=xs)) ?_;intro hx;subst hx;refine KX.d7 al (Ent.d8 cw 2 157) ⟨_,_,rfl,rfl⟩
 ·refine GO.ent (Ent.f7 (enc:=cw) (sz:=2) (xs:=[]) rfl rfl bZ bZ) ?_;refine GO.ef (Ef.g8 rfl rfl rfl rfl hn (fun e _=>qC e) fW fW) ag ?_;rintro _ _⟨a1,a0,rfl,rfl⟩;refine Jq ?_;intros;refine KX.d7 al (Ent.refl _) ⟨a1,a0,rfl,rfl⟩
def Bh{L:LH}(t:TxV)(hb:t.B) :
  Tri ai 122 #[aN (eC t)] (txP t::L) (fun v L'=>∃t',v=aN (eC t')∧t'.m=t.m∧L' = txP t'::txP t::L):=by
 obtain⟨name,brs,ad,cap⟩:=t;unfold TxV.B at hb;dsimp only at hb;refine Tri.bd (args:=[aN (eC ⟨name,brs,ad,cap⟩)]) ?_;simp only[txP];refine Jq ?_;intros;refine GO.ca (yG ad brs.length cap brs rfl ab) ?_;rintro _ _⟨a1,a0,rfl,rfl⟩;refine Jq ?_;intros;refine KX.d7 (by exact ResOk.cell rfl aK (ResOk.nil)) ?_ ⟨⟨name,brs,a1,a0⟩,rfl,rfl,rfl⟩;refine(Ent.frz a1).trans ?_;exact ae
def Bd{L:LH}(ad:OA)(c:Nat)(ms:List TxV)(hl:ms.length≤64)(hp:∀m∈ms,TxV.B m) :
  Tri ai 121 #[ah ad ms.length c,.func (.func 122) #[] #[]] (isl eC 2 ad ms::allP txP ms::L) (fun v L'=>∃a3 c' a0,v=ah a3 a0.length c'∧a0.map TxV.m=ms.map TxV.m∧L' = isl eC 2 a3 a0::allP txP a0::isl eC 2 ad ms::allP txP ms::L):=by
 refine Tri.bd ?_;by_cases h0:ms.length=0
 ·have e:ms=[]:=aX h0;subst e;refine Jq ?_;intros;exact KX.d7 al ((Ent.d9 txP).trans (Ent.e8 eC 2 none)) ⟨none,0,[],rfl,rfl,rfl⟩
 refine Jq ?_;intros;refine GO.ef (Ef.e9 eC tx0 rfl rfl rfl ab ab ab ab) ag ?_;rintro _ _⟨bs,rfl,rfl⟩;rw[show(ms.length:Int).toNat=ms.length by omega];refine Jq ?_;intros
 refine G.loop (α:=Nat×List TxV) (fun z=>z.1≤ms.length∧z.2.length=ms.length∧(z.2.take z.1).map TxV.m=(ms.take z.1).map TxV.m) (fun z=>[(1,.func (.func 122) #[] #[]),(5,ah (some ⟨bs,0,none⟩) ms.length ms.length),(14,ah ad ms.length c),(15,ac (ms.length:Int)),(16,ac (z.1:Int))])
  (fun z=>osl eC 2 160 (some ⟨bs,0,none⟩) ms.length z.2::allP txP (z.2.take z.1)::isl eC 2 ad ms::allP txP ms::L) (fun z=>ms.length - z.1) (0,List.replicate ms.length tx0) ⟨aw _,by simp,by simp⟩ av ?_ ?_
 ·dsimp only;rw[bH];refine(Ent.d9 txP).trans ?_;exact ae
 rintro⟨i,zs⟩ ⟨hi,a4,a1⟩;dsimp only at hi a4 a1 ⊢;by_cases a2:i<ms.length
 case neg =>
  have a7:i=ms.length:=ab;subst a7;rw[aF ab,aF ab] at a1;rw[aF (ab:zs.length≤ms.length)];refine Jq ?_;intros;refine KX.d7 al (Ent.freezeSl) ⟨some ⟨bs,0,none⟩,ms.length,zs,by rw[a4];rfl,a1,rfl⟩
 have a6:(i:Int).toNat=i:=ab;have a5:ms[i]!∈ms:=aI a2;refine Jq ?_;intros;rw[a6];refine GO.ent (Ent.at (A:=allP txP ms) (Ent.e7 (x:=ms[i]!) a5)) ?_;refine GO.ef (Ef.d8 rfl rfl (Bh ms[i]! (hp _ a5))) ag ?_;rintro _ _⟨m',rfl,a8,rfl⟩;refine Jq ?_;intros;refine GO.efu (Ef.e8 (e:=m') rfl rfl aK aK (vB _) ab) ?_;rintro _ _ rfl;rw[a6];refine Jq ?_;intros;refine⟨(i+1,zs.set i m'),⟨by dsimp only;omega,by dsimp only;simp;omega,?_⟩,by dsimp only;omega,?_,?_⟩
 ·dsimp only;rw[de ab,aD a2,aW,aW,a1,←getElem!_of a2];simp[a8]
 ·dsimp only;rw[aV i];exact av
 ·dsimp only;rw[de ab];refine Ent.d7 ?_;refine Ent.trans (B:=allP txP (zs.take i)::txP m'::isl eC 2 ad ms::allP txP ms::L) ae ?_;exact(Ent.d7 (Ent.f8 lO)).trans (Ent.g7 lO)
structure CatM where
 items:List ItG
 rules:List RuM
 tables:List TbM
 taxes:List TxM
structure CatV where
 items:List ItG
 iad:OA
 icap:Nat
 rules:List RuV
 rad:OA
 rcap:Nat
 tables:List TbV
 tad:OA
 tcap:Nat
 taxes:List TxV
 xad:OA
 xcap:Nat
def CatV.m(c:CatV):CatM:=⟨c.items,c.rules.map RuV.m,c.tables.map TbV.m,c.taxes.map TxV.m⟩
def CatV.cells(c:CatV):LV:=[ah c.iad c.items.length c.icap,ah c.rad c.rules.length c.rcap,ah c.tad c.tables.length c.tcap,ah c.xad c.taxes.length c.xcap]
def catI(c:CatV):HP:=isl dE 7 c.iad c.items
def catR(c:CatV):HP:=andP (isl cY 9 c.rad c.rules) (allP ruP c.rules)
def catT(c:CatV):HP:=andP (isl eD 2 c.tad c.tables) (allP tbP c.tables)
def catX(c:CatV):HP:=andP (isl eC 2 c.xad c.taxes) (allP txP c.taxes)
def catP(c:CatV):HP:=andP (catI c) (andP (catR c) (andP (catT c) (catX c)))
def yH(c:CatV):PersM (catI c):=bN _ _ _ _
def qJ(c:CatV):PersM (catR c):=(bN _ _ _ _).and (cT jH)
def nk(c:CatV):PersM (catT c):=(bN _ _ _ _).and (cT kC)
def nj(c:CatV):PersM (catX c):=(bN _ _ _ _).and (cT lO)
def mo(c:CatV):PersM (catP c):=(yH c).and ((qJ c).and ((nk c).and (nj c)))
structure CatV.B (c:CatV):Prop where
 items:c.items.length≤64
 rules:c.rules.length≤64
 tables:c.tables.length≤64
 taxes:c.taxes.length≤64
 ru:∀r∈c.rules,RuV.B r
 tb:∀r∈c.tables,TbV.B r
 tx:∀r∈c.taxes,TxV.B r
abbrev Fk:List Stp:=[.ev 0,.ev 1,.ev 3,.ev 4,.ev 6,.ev 7,.ev 9,.ev 10,.ef 2,.ef 5,.ef 8,.ef 11,.ev 12,.ef 13]
def JE{φ ψ:Prop}(k:ψ)(h:Hid ψ→φ:=by intro k;(repeat (first|refine aa ?_|intro zzz|refine G.dr 16 1 Fk ?_));(repeat revert zzz);exact Hid.out k):φ:=h ⟨k⟩
def pJ{L:LH}(c:CatV)(hb:c.B) :
  Tri ai 63 #[aN c.cells] (catP c::L) (fun v L'=>∃c',v=.agg c'.cells.toArray∧c'.m=c.m∧L' = catP c'::catP c::L):=by
 obtain⟨items,iad,icap,rules,rad,rcap,tables,tad,tcap,taxes,xad,xcap⟩:=c;obtain⟨c0,b7,b6,b4,b5,b9,b8⟩:=hb;dsimp only at c0 b7 b6 b4 b5 b9 b8;refine Tri.bd (args:=[aN (CatV.cells ⟨items,iad,icap,rules,rad,rcap,tables,tad,tcap,taxes,xad,xcap⟩)]) ?_;refine G.ent ((Ent.dup (mo _).pers).trans (Ent.andE.trans (Ent.d7 (Ent.andE.trans (Ent.d7 Ent.andE))))) ?_;simp only[catI,catR,catT,catX];refine G.ent (Ent.d7 (Ent.andE.trans (Ent.d7 (Ent.d7 (Ent.andE.trans (Ent.d7 (Ent.d7 Ent.andE))))))) ?_;refine JE ?_;intros;refine GPW.ca (wb iad items.length icap items rfl ab) ?_;rintro _ _⟨a4,a9,rfl,rfl⟩;refine JE ?_;intros;refine GPW.ent (Ent.at (A:=isl cY 9 rad rules) (Ent.d7 (Ent.at (A:=allP ruP rules) (Ent.refl _)))) ?_;refine GPW.ca (Bg rad rcap rules b7 b5) ?_;rintro _ _⟨b2,b1,a2,rfl,a5,rfl⟩;refine JE ?_;intros;refine GPW.ent (Ent.at (A:=isl eD 2 tad tables) (Ent.d7 (Ent.at (A:=allP tbP tables) (Ent.refl _)))) ?_;refine GPW.ca (Be tad tcap tables b6 b9) ?_;rintro _ _⟨a8,a7,a0,rfl,a3,rfl⟩;refine JE ?_;intros;refine GPW.ent (Ent.at (A:=isl eC 2 xad taxes) (Ent.d7 (Ent.at (A:=allP txP taxes) (Ent.refl _)))) ?_;refine GPW.ca (Bd xad xcap taxes b4 b8) ?_;rintro _ _⟨b3,b0,a1,rfl,a6,rfl⟩;refine JE ?_;intros;refine KX.d7 (by exact ResOk.cell rfl aK (ResOk.nil)) ?_ ⟨⟨items,a4,a9,a2,b2,b1,a0,a8,a7,a1,b3,b0⟩,rfl,by simp only[CatV.m,a5,a3,a6],rfl⟩;refine(Ent.frz a4).trans ?_;refine Ent.trans (B:=isl dE 7 a4 items::isl cY 9 b2 a2::allP ruP a2::isl eD 2 a8 a0::allP tbP a0::isl eC 2 b3 a1::allP txP a1::catP ⟨items,iad,icap,rules,rad,rcap,tables,tad,tcap,taxes,xad,xcap⟩::L) ae ?_;refine(Ent.d7 ((Ent.e9 (bN _ _ _ _) (cT jH)).trans (Ent.d7 ((Ent.e9 (bN _ _ _ _) (cT kC)).trans (Ent.d7 (Ent.e9 (bN _ _ _ _) (cT lO))))))).trans ?_;refine(Ent.d7 (Ent.d7 (Ent.e9 ((bN _ _ _ _).and (cT kC)) ((bN _ _ _ _).and (cT lO))))).trans ?_;refine(Ent.d7 (Ent.e9 ((bN _ _ _ _).and (cT jH)) (((bN _ _ _ _).and (cT kC)).and ((bN _ _ _ _).and (cT lO))))).trans ?_;exact Ent.e9 (bN _ _ _ _) (((bN _ _ _ _).and (cT jH)).and (((bN _ _ _ _).and (cT kC)).and ((bN _ _ _ _).and (cT lO))))
end Go.Proofs.YtommnllbflbdmaaGreatDoor
namespace Go.V
def asl{α:Type}(enc:α→LV)(sz E:Nat)(ad:OA)(cap:Nat)(xs:List α):HP:=fun ι h =>
 osl enc sz E ad cap xs ι h∨((cap=xs.length∧xs.length≤maxLen)∧isl enc sz ad xs ι h)
class PickAsl (L:LH) (ad:OA) (α:outParam Type) (enc:outParam (α→LV)) (sz E:outParam Nat) (cap:outParam Nat) (xs:outParam (List α)) (R:outParam (LH)):Prop where
 perm:L.Perm (asl enc sz E ad cap xs::R)
instance {α:Type}(L:LH)(enc:α→LV)(sz E:Nat)(ad:OA)(cap:Nat)(xs:List α):PickAsl (asl enc sz E ad cap xs::L) ad α enc sz E cap xs L:=⟨List.Perm.refl _⟩
instance {α:Type}(A:HP)(L:LH)(enc:α→LV)(sz E:Nat)(ad:OA)(cap:Nat)(xs:List α)(R:LH)[h:PickAsl L ad α enc sz E cap xs R]:PickAsl (A::L) ad α enc sz E cap xs (A::R):=⟨(h.perm.cons A).trans (List.Perm.swap _ _ _)⟩
section
variable {α:Type}{θ:Th}{enc:α→LV}{sz E:Nat}{ad:OA}{cap:Nat}{xs:List α}{L:LH}{w:World}
def Sat.asl_cases(s:Sat θ (asl enc sz E ad cap xs::L) w):Sat θ (osl enc sz E ad cap xs::L) w∨((cap=xs.length∧xs.length≤maxLen)∧Sat θ (isl enc sz ad xs::L) w):=by
 obtain⟨ok,ι,h,a,b1,c,ι₀,h₁,h₂,d1,d2,d3,d4,e,d6⟩:=s;rcases e with e|⟨e1,e2⟩
 ·exact .inl ⟨ok,ι,h,a,b1,c,ι₀,h₁,h₂,d1,d2,d3,d4,e,d6⟩
 ·exact .inr ⟨e1,ok,ι,h,a,b1,c,ι₀,h₁,h₂,d1,d2,d3,d4,e2,d6⟩
def Ent.ofOsl:Ent (osl enc sz E ad cap xs::L) (asl enc sz E ad cap xs::L):=fun θ R w s=>by
 obtain⟨ok,ι,h,a,b1,c,ι₀,h₁,h₂,d1,d2,d3,d4,e,d6⟩:=s;exact⟨ok,ι,h,a,b1,c,ι₀,h₁,h₂,d1,d2,d3,d4,.inl e,d6⟩
def Ent.m7(hm:xs.length≤maxLen):Ent (isl enc sz ad xs::L) (asl enc sz E ad xs.length xs::L):=fun θ R w s=>by
 obtain⟨ok,ι,h,a,b1,c,ι₀,h₁,h₂,d1,d2,d3,d4,e,d6⟩:=s;exact⟨ok,ι,h,a,b1,c,ι₀,h₁,h₂,d1,d2,d3,d4,.inr ⟨⟨rfl,hm⟩,e⟩,d6⟩
def Sat.g7(s:Sat θ (asl enc sz E ad cap xs::L) w):RdSl w enc sz ad xs:=by
 rcases s.asl_cases with s|⟨_,s⟩
 ·exact s.osl_rd
 ·exact s.isl_rd
def BQ{R' : LH}[h:PickAsl L ad α enc sz E cap xs R']:∀θ R w,Sat θ (L++R) w→xs.length≤cap∧cap≤9223372036854775807:=fun θ R w s=>by
 rcases (s.perm (h.perm.append_right R)).asl_cases with s|⟨⟨e1,e2⟩,s⟩
 ·have:=s.osl_parts
  simp only[maxLen] at this;exact⟨this.2.1,ab⟩
 ·simp only[maxLen] at e2;omega
def Ent.m9:Ent (asl enc sz E ad cap xs::L) (isl enc sz ad xs::L):=fun θ R w s=>by
 rcases Sat.asl_cases (L:=L++R) s with s|⟨_,s⟩
 ·exact Ent.freezeSl θ R w s
 ·exact s
end
instance {α:Type}(L:LH)(enc:α→LV)(sz E:Nat)(ad:OA)(cap:Nat)(xs:List α):Rds (asl enc sz E ad cap xs::L) ad α enc sz xs:=⟨fun _ _ _ s=>Sat.g7 s⟩
section ops
variable {P:Program}{N:Nat}{env:Env}{L:LH}{ty:TypeId}
def Ef.n5{t:TypeId}{x y:Operand}{α:Type}{enc:α→LV}{b:Addr}{ad2:OA}{n c n2 c2 sz E bb:Nat}{xs ys:List α}{z:LV}[ht:TySl P t E sz bb z][hr:Rds L (some b) α enc sz xs][hq:Rds L ad2 α enc sz ys]
  (hx:evE env x=some (.slice (some b) n c)) (hy:evE env y=some (.slice ad2 n2 c2)) (hn:n=xs.length) (hc:c=xs.length) (a9:n2=ys.length) (h0:0<ys.length) (hb:(xs.length+ys.length)*bb≤140737488355328) (hm:xs.length+ys.length≤9223372036854775807)
  : Ef P L env (.call { callee:=.builtin .append,args:=#[x,y],argTypes:=#[t,t] }) ty (fun v L'=>∃a6 a0,v=.slice a6 (xs++ys).length a0∧L' = osl enc sz E a6 a0 (xs++ys)::L) :=
 Ef.val (fun θ R a w ea s b7 pos af g=>by
  subst hn hc a9;obtain⟨f1,f2⟩:=hr.rd θ R w s;obtain⟨g1,g2⟩:=hq.rd θ R w s;obtain⟨ii,z0,i1,i2,i3,i4,i5⟩:=ht.parts;rcases g2 with g2|⟨a2,rfl,g3⟩
  ·subst g2;simp at h0
  have hold:∀j u,(xs.flatMap enc)[j]? = some u→w.cell? (b.add j)=some u:=by
   rcases f2 with f2|⟨a1,e1,f3⟩
   ·subst f2;simp
   ·cases e1;exact f3
  obtain⟨v',w',a3,ho,hg⟩:=run_append_arg_grows (P:=P) (w:=w) t ty E ii z0 sz bb ht.under i1 i2 i4 i5 (by rw[←ht.zlen,←i3];simp) ht.pos b xs.length xs.length (xs.flatMap enc) (fI f1) hold a2 ys.length c2 (ys.flatMap enc) (fI g1) g3 ab (by simp only[maxLen];omega) hb;obtain⟨b2,ho⟩:=ho;rcases ho with⟨_,hn⟩|⟨g',a0,a8,rfl,b4,b0,b6,b5,b1,a4⟩
  ·omega
  have b3:=pU _ a3;have ok:θ.ok w':=⟨by rw[hg.tape];exact s.1.tape,by rw[hg.os];exact s.1.os,by rw[hg.output];exact s.1.output,cK s.1.drawn b3⟩
  have a5:∀x∈xs++ys,(enc x).length=sz:=fun x hx=>by
   rcases List.mem_append.1 hx with hx|hx
   ·exact f1 x hx
   ·exact g1 x hx
  have a7:(xs++ys).length=xs.length+ys.length:=by simp
  have s2:Sat θ (own g' (.cells a8 E (0,0))::(L++R)) w':=s.fresh ok b4 b0 (fun k x hk=>by rw[hg.block k (Array.getElem?_eq_some_iff.1 hk).1 bZ];exact hk);have s3:=Sat.osl_mk (cap:=a0) s2 a5 ab b5 b1 (by rw[a7,a4];simp);refine⟨_,w',_,?_,⟨some ⟨g',0,none⟩,a0,by rw[a7],rfl⟩,s3⟩;simp[execOp,resolve,invoke,builtin,aP ea hx,aP ea hy,a3])
def Ef.m6{t:TypeId}{x y:Operand}{α:Type}{enc:α→LV}{ad ad2:OA}{n c n2 c2 sz E bb cap:Nat}{xs ys:List α}{z:LV}{R1:LH}[ht:TySl P t E sz bb z][hp:PickAsl L ad α enc sz E cap xs R1][hq:Rds R1 ad2 α enc sz ys]
  (hx:evE env x=some (.slice ad n c)) (hy:evE env y=some (.slice ad2 n2 c2)) (hn:n=xs.length) (hc:c=cap) (a4:n2=ys.length) (h0:0<ys.length) (h1:∀e∈ys,∀u∈enc e,u.oneCell' = true) (hb:(xs.length+ys.length)*bb≤140737488355328) (hm:xs.length+ys.length≤9223372036854775807)
  : Ef P L env (.call { callee:=.builtin .append,args:=#[x,y],argTypes:=#[t,t] }) ty (fun v L'=>∃a1 a0,v=.slice a1 (xs++ys).length a0∧L' = asl enc sz E a1 a0 (xs++ys)::R1):=by
 intro θ R a w o next Q ha s e1 e2 a5
 have s1:=s.perm (hp.perm.append_right R)
 have own:∀{ad:OA} {cap n c:Nat},evE env x=some (.slice ad n c)→n=xs.length→c=cap→Sat θ (osl enc sz E ad cap xs::R1++R) w→Oper.wp P o a w next Q:=fun hx hn hc s2 =>
  Ef.g8 (L:=osl enc sz E _ _ xs::R1) (R1:=R1) (P:=P) (ty:=ty) (t:=t) hx hy hn hc a4 h1 hb hm θ R a w o next Q ha s2 e1 e2 (fun v L' w' ⟨a1,a0,q1,q2⟩ s'=>a5 v _ w' ⟨a1,a0,q1,rfl⟩ (by subst q2;exact Ent.ofOsl θ R w' s'))
 rcases Sat.asl_cases (L:=R1++R) s1 with s2|⟨⟨a3,a7⟩,s2⟩
 ·exact own hx hn hc s2
 ·cases ad with
  | none =>
   have h3:=s2.isl_rd.2
   have a2:xs=[]:=by
    rcases h3 with h3|⟨a',a6,_⟩
    ·exact h3
    ·cases a6
   have hz:cap=0:=by rw[a3,a2];rfl
   subst hz;refine own hx hn hc ?_;rw[a2];exact Sat.e9 enc sz E s2.tail
  | some b =>
   exact Ef.n5 (L:=isl enc sz (some b) xs::R1) (E:=E) (P:=P) (ty:=ty) (t:=t) (xs:=xs) hx hy hn (hc.trans a3) a4 h0 hb hm θ R a w o next Q ha s2 e1 e2 (fun v L' w' ⟨a1,a0,q1,q2⟩ s'=>a5 v _ w' ⟨a1,a0,q1,rfl⟩ (by
    subst q2;exact Ent.ofOsl θ R w' (s'.perm (List.Perm.swap _ _ _)).tail))
def Ef.j0{t:TypeId}{x y:Operand}{α:Type}{enc:α→LV}{ad:OA}{n c sz E bb cap b T:Nat}{xs:List α}{z cs:LV}{R1 R2:LH}(e:α)[ht:TySl P t E sz bb z][hp:PickAsl L ad α enc sz E cap xs R1][hq:PickObj R1 b T cs R2]
  (hx:evE env x=some (.slice ad n c)) (hy:evE env y=some (.slice (some ⟨b,0,none⟩) 1 1)) (he:cs=enc e) (hn:n=xs.length) (hc:c=cap) (hs:cs.length=sz) (h1:∀u∈cs,u.oneCell' = true) (hb:(xs.length+1)*bb≤140737488355328) (hm:xs.length+1≤9223372036854775807)
  : Ef P L env (.call { callee:=.builtin .append,args:=#[x,y],argTypes:=#[t,t] }) ty (fun v L'=>∃a1 a0,v=.slice a1 (xs++[e]).length a0∧L' = asl enc sz E a1 a0 (xs++[e])::R2):=by
 subst he
 have a2:Rds R1 (some ⟨b,0,none⟩) α enc sz [e]:=⟨fun θ R w s=>by
  have hb:=Sat.obj_heap (R:=R) s hq.perm;refine⟨fun y hy=>by rw[List.mem_singleton.1 hy];exact hs,.inr ⟨_,rfl,fun i v hv=>?_⟩⟩;rw[gJ,fk hb];simpa using hv⟩
 intro θ R a w o next Q ha s e1 e2 a3
 refine Ef.m6 (P:=P) (ty:=ty) (t:=t) (hp:=hp) (hq:=a2) hx hy hn hc rfl (Nat.zero_lt_one) (fun y hy u hu=>by rw[List.mem_singleton.1 hy] at hu;exact h1 u hu) (by simpa using hb) (by simpa using hm) θ R a w o next Q ha s e1 e2 (fun v L' w' ⟨a1,a0,q1,q2⟩ s'=>a3 v _ w' ⟨a1,a0,q1,rfl⟩ ?_)
 subst q2;have s3:Sat θ (asl enc sz E a1 a0 (xs++[e])::(obj b T (enc e)::R2++R)) w':=s'.perm ((hq.perm.append_right R).cons _);exact(s3.perm (List.Perm.swap _ _ _)).tail
