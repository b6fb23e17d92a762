/- Lemmas. -/
import Derived.Test.YtommnllbflbdmaaGreatDoorCataj
import Derived.ArgAppend
set_option linter.all false
set_option maxHeartbeats 2000000
namespace Go.Proofs.YtommnllbflbdmaaGreatDoor
open Go.V
attribute [local irreducible] G GO GP GPW GPK Ev Ef EfR Ent CB GB Enters
structure AmS where
 l:List (Int×Int)
 ad:OA
 cap:Nat
 deriving Inhabited
def AmS.v(a:AmS):Value:=ae a.ad a.l.length a.cap
abbrev amS(a:AmS):HP:=isl aV 2 a.ad a.l
def jB(a:AmS):PersM (amS a):=bI _ _ _ _
def lw{L:LH}(ad:OA)(n c:Nat)(xs:List (Int×Int))[Rds L ad (Int×Int) aV 2 xs](hn:n=xs.length)(hb:n≤1000000) :
  Tri ai 207 #[ae ad n c] L (fun v L'=>∃a1 a0,v=ae a1 xs.length a0∧L' = osl aV 2 81 a1 a0 xs::L):=by
 refine Tri.bd ?_;repeat' first|refine aa ?_|intro _|with_reducible refine CB.dec (fun _=>?_) (fun _=>?_)|with_reducible refine GB.dec (fun _=>?_) (fun _=>?_)|with_reducible refine CB.bool (fun _=>?_) (fun _=>?_)|with_reducible refine GB.bool (fun _=>?_) (fun _=>?_)
 ·have h:ad=none:=by assumption
  subst h;refine KX.l7 (.inl rfl) (nO (L:=L) (xs:=xs)) ?_;intro hx;subst hx;refine KX.d7 av (Ent.d8 aV 2 81) ⟨_,_,rfl,rfl⟩
 ·refine GO.ent (Ent.e9 (enc:=aV) (sz:=2) (xs:=[]) rfl rfl bH bH) ?_;refine GO.ef (Ef.j0 rfl rfl rfl rfl hn (fun e _=>gE e) fy fy) ag ?_;rintro _ _⟨a1,a0,rfl,rfl⟩;refine IF ?_;intros;refine KX.d7 av (Ent.refl _) ⟨a1,a0,rfl,rfl⟩
structure ItG where
 name:ByteArray
 obj:Bool
 mixed:Bool
 coin:Bool
 wear:Int
 bind:Int
 level:Int
 deriving Inhabited
def be(i:ItG):LV:=[.string i.name,.bool i.obj,.bool i.mixed,.bool i.coin,ac i.wear,ac i.bind,ac i.level]
def kn(t:ItG):∀u∈be t,u.oneCell' = true:=by simp[be,Value.oneCell']
instance:EncC be:=⟨kn⟩
def vk{L:LH}(ad:OA)(n c:Nat)(xs:List ItG)[Rds L ad ItG be 7 xs](hn:n=xs.length)(hb:n≤1000000) :
  Tri ai 116 #[ae ad n c] L (fun v L'=>∃a1 a0,v=ae a1 xs.length a0∧L' = osl be 7 147 a1 a0 xs::L):=by
 refine Tri.bd ?_;repeat' first|refine aa ?_|intro _|with_reducible refine CB.dec (fun _=>?_) (fun _=>?_)|with_reducible refine GB.dec (fun _=>?_) (fun _=>?_)|with_reducible refine CB.bool (fun _=>?_) (fun _=>?_)|with_reducible refine GB.bool (fun _=>?_) (fun _=>?_)
 ·have h:ad=none:=by assumption
  subst h;refine KX.l7 (.inl rfl) (nO (L:=L) (xs:=xs)) ?_;intro hx;subst hx;refine KX.d7 av (Ent.d8 be 7 147) ⟨_,_,rfl,rfl⟩
 ·refine GO.ent (Ent.e9 (enc:=be) (sz:=7) (xs:=[]) rfl rfl bH bH) ?_;refine GO.ef (Ef.j0 rfl rfl rfl rfl hn (fun e _=>kn e) fy fy) ag ?_;rintro _ _⟨a1,a0,rfl,rfl⟩;refine IF ?_;intros;refine KX.d7 av (Ent.refl _) ⟨a1,a0,rfl,rfl⟩
structure RuM where
 name:ByteArray
 spawn:Bool
 level:Int
 time:Int
 chance:Int
 of_:Int
 take:List (Int×Int)
 give:List (Int×Int)
 back:List (Int×Int)
 deriving Inhabited
structure RuV where
 name:ByteArray
 spawn:Bool
 level:Int
 time:Int
 chance:Int
 of_:Int
 take:AmS
 give:AmS
 back:AmS
 deriving Inhabited
def RuV.m(r:RuV):RuM:=⟨r.name,r.spawn,r.level,r.time,r.chance,r.of_,r.take.l,r.give.l,r.back.l⟩
def bj(r:RuV):LV:=[.string r.name,.bool r.spawn,ac r.level,ac r.time,ac r.chance,ac r.of_,ae r.take.ad r.take.l.length r.take.cap,ae r.give.ad r.give.l.length r.give.cap,ae r.back.ad r.back.l.length r.back.cap]
def jS(t:RuV):∀u∈bj t,u.oneCell' = true:=by simp[bj,Value.oneCell']
instance:EncC bj:=⟨jS⟩
def ruP(r:RuV):HP:=andP (amS r.take) (andP (amS r.give) (amS r.back))
def jp(r:RuV):PersM (ruP r):=(jB _).and ((jB _).and (jB _))
def ru0:RuV:=⟨⟨#[]⟩,false,0,0,0,0,⟨[],none,0⟩,⟨[],none,0⟩,⟨[],none,0⟩⟩
def RuV.B(r:RuV):Prop:=r.take.l.length≤64∧r.give.l.length≤64∧r.back.l.length≤64
abbrev BV:List Stp:=[.ev 0,.ev 1,.ev 3,.ev 4,.ev 6,.ev 7,.ef 2,.ev 9,.ef 5,.ef 8,.ef 10,.ev 11,.ef 12,.ev 13,.ef 14]
def IO{φ ψ:Prop}(k:ψ)(h:Hid ψ→φ:=by intro k;(repeat (first|refine aa ?_|intro zzz|refine G.dr 16 1 BV ?_));(repeat revert zzz);exact Hid.out k):φ:=h ⟨k⟩
def As{L:LH}(r:RuV)(hb:r.B) :
  Tri ai 118 #[aN (bj r)] (ruP r::L) (fun v L'=>∃r',v=aN (bj r')∧r'.m=r.m∧L' = ruP r'::ruP r::L):=by
 obtain⟨name,spawn,level,time,chance,of_,⟨tl,tad,tcap⟩,⟨gl,a9,a6⟩,⟨bl,a8,a4⟩⟩:=r;obtain⟨b0,b1,b2⟩:=hb;dsimp only at b0 b1 b2;refine Tri.bd (args:=[aN (bj ⟨name,spawn,level,time,chance,of_,⟨tl,tad,tcap⟩,⟨gl,a9,a6⟩,⟨bl,a8,a4⟩⟩)]) ?_;refine G.ent ((Ent.dup (jp _).pers).trans (Ent.andE.trans (Ent.d7 Ent.andE))) ?_;simp only[amS];refine IO ?_;intros;refine GPW.ca (lw tad tl.length tcap tl rfl ab) ?_;rintro _ _⟨a7,a2,rfl,rfl⟩;refine IO ?_;intros;refine GPW.ca (lw a9 gl.length a6 gl rfl ab) ?_;rintro _ _⟨a5,a1,rfl,rfl⟩;refine IO ?_;intros;refine GPW.ca (lw a8 bl.length a4 bl rfl ab) ?_;rintro _ _⟨a3,a0,rfl,rfl⟩;refine IO ?_;intros;refine KX.d7 (by exact ResOk.cell rfl aJ (ResOk.nil)) ?_ ⟨⟨name,spawn,level,time,chance,of_,⟨tl,a7,a2⟩,⟨gl,a5,a1⟩,⟨bl,a3,a0⟩⟩,rfl,rfl,rfl⟩;refine(Ent.frz a3).trans ((Ent.d7 (Ent.frz a5)).trans ((Ent.d7 (Ent.d7 (Ent.frz a7))).trans ?_));refine Ent.trans (B:=amS ⟨tl,a7,a2⟩::amS ⟨gl,a5,a1⟩::amS ⟨bl,a3,a0⟩::ruP ⟨name,spawn,level,time,chance,of_,⟨tl,tad,tcap⟩,⟨gl,a9,a6⟩,⟨bl,a8,a4⟩⟩::L) (by simp only[amS];exact ah) ?_;exact(Ent.d7 (Ent.e8 (jB _) (jB _))).trans (Ent.e8 (jB _) ((jB _).and (jB _)))
def Ao{L:LH}(ad:OA)(c:Nat)(ms:List RuV)(hl:ms.length≤64)(hp:∀m∈ms,RuV.B m) :
  Tri ai 117 #[ae ad ms.length c,.func (.func 118) #[] #[]] (isl bj 9 ad ms::allP ruP ms::L) (fun v L'=>∃a3 c' a1,v=ae a3 a1.length c'∧a1.map RuV.m=ms.map RuV.m∧L' = isl bj 9 a3 a1::allP ruP a1::isl bj 9 ad ms::allP ruP ms::L):=by
 refine Tri.bd ?_;by_cases h0:ms.length=0
 ·have e:ms=[]:=aW h0;subst e;refine IF ?_;intros;exact KX.d7 av ((Ent.e7 ruP).trans (Ent.f8 bj 9 none)) ⟨none,0,[],rfl,rfl,rfl⟩
 refine IF ?_;intros;refine GO.ef (Ef.f8 bj ru0 rfl rfl rfl ab ab ab ab) ag ?_;rintro _ _⟨bs,rfl,rfl⟩;rw[show(ms.length:Int).toNat=ms.length by omega];refine IF ?_;intros
 refine G.loop (α:=Nat×List RuV) (fun z=>z.1≤ms.length∧z.2.length=ms.length∧(z.2.take z.1).map RuV.m=(ms.take z.1).map RuV.m) (fun z=>[(1,.func (.func 118) #[] #[]),(5,ae (some ⟨bs,0,none⟩) ms.length ms.length),(14,ae ad ms.length c),(15,ac (ms.length:Int)),(16,ac (z.1:Int))])
  (fun z=>osl bj 9 79 (some ⟨bs,0,none⟩) ms.length z.2::allP ruP (z.2.take z.1)::isl bj 9 ad ms::allP ruP ms::L) (fun z=>ms.length - z.1) (0,List.replicate ms.length ru0) ⟨az _,by simp,by simp⟩ an ?_ ?_
 ·dsimp only;rw[bC];refine(Ent.e7 ruP).trans ?_;exact ah
 rintro⟨i,zs⟩ ⟨hi,a6,a0⟩;dsimp only at hi a6 a0 ⊢;by_cases a2:i<ms.length
 case neg =>
  have a7:i=ms.length:=ab;subst a7;rw[aB ab,aB ab] at a0;rw[aB (ab:zs.length≤ms.length)];refine IF ?_;intros;refine KX.d7 av (Ent.freezeSl) ⟨some ⟨bs,0,none⟩,ms.length,zs,by rw[a6];rfl,a0,rfl⟩
 have a4:(i:Int).toNat=i:=ab;have a5:ms[i]!∈ms:=aL a2;refine IF ?_;intros;rw[a4];refine GO.ent (Ent.at (A:=allP ruP ms) (Ent.d9 (x:=ms[i]!) a5)) ?_;refine GO.ef (Ef.d8 rfl rfl (As ms[i]! (hp _ a5))) ag ?_;rintro _ _⟨m',rfl,a8,rfl⟩;refine IF ?_;intros;refine GO.efu (Ef.e7 (e:=m') rfl rfl aJ aJ (jS _) ab) ?_;rintro _ _ rfl;rw[a4];refine IF ?_;intros;refine⟨(i+1,zs.set i m'),⟨by dsimp only;omega,by dsimp only;simp;omega,?_⟩,by dsimp only;omega,?_,?_⟩
 ·dsimp only;rw[dp ab,aC a2,aR,aR,a0,←getElem!_of a2];simp[a8]
 ·dsimp only;rw[aU i];exact an
 ·dsimp only;rw[dp ab];refine Ent.d7 ?_;refine Ent.trans (B:=allP ruP (zs.take i)::ruP m'::isl bj 9 ad ms::allP ruP ms::L) ah ?_;exact(Ent.d7 (Ent.l0 jp)).trans (Ent.j0 jp)
structure RwM where
 weight:Int
 give:List (Int×Int)
 deriving Inhabited
structure RwV where
 weight:Int
 give:AmS
 deriving Inhabited
def RwV.m(r:RwV):RwM:=⟨r.weight,r.give.l⟩
def du(r:RwV):LV:=[ac r.weight,ae r.give.ad r.give.l.length r.give.cap]
def la(t:RwV):∀u∈du t,u.oneCell' = true:=by simp[du,Value.oneCell']
instance:EncC du:=⟨la⟩
abbrev rwP(r:RwV):HP:=amS r.give
def kc(r:RwV):PersM (rwP r):=jB _
def rw0:RwV:=⟨0,⟨[],none,0⟩⟩
def RwV.B(r:RwV):Prop:=r.give.l.length≤64
def Ar{L:LH}(r:RwV)(hb:r.B) :
  Tri ai 209 #[aN (du r)] (rwP r::L) (fun v L'=>∃r',v=aN (du r')∧r'.m=r.m∧L' = rwP r'::rwP r::L):=by
 obtain⟨weight,⟨gl,a3,a1⟩⟩:=r;unfold RwV.B at hb;dsimp only at hb;refine Tri.bd (args:=[aN (du ⟨weight,⟨gl,a3,a1⟩⟩)]) ?_;simp only[rwP,amS];refine IF ?_;intros;refine GO.ca (lw a3 gl.length a1 gl rfl ab) ?_;rintro _ _⟨a0,a2,rfl,rfl⟩;refine IF ?_;intros;refine KX.d7 (by exact ResOk.cell rfl aJ (ResOk.nil)) ?_ ⟨⟨weight,⟨gl,a0,a2⟩⟩,rfl,rfl,rfl⟩;refine(Ent.frz a0).trans ?_;exact ah
def An{L:LH}(ad:OA)(c:Nat)(ms:List RwV)(hl:ms.length≤64)(hp:∀m∈ms,RwV.B m) :
  Tri ai 208 #[ae ad ms.length c,.func (.func 209) #[] #[]] (isl du 2 ad ms::allP rwP ms::L) (fun v L'=>∃a3 c' a1,v=ae a3 a1.length c'∧a1.map RwV.m=ms.map RwV.m∧L' = isl du 2 a3 a1::allP rwP a1::isl du 2 ad ms::allP rwP ms::L):=by
 refine Tri.bd ?_;by_cases h0:ms.length=0
 ·have e:ms=[]:=aW h0;subst e;refine IF ?_;intros;exact KX.d7 av ((Ent.e7 rwP).trans (Ent.f8 du 2 none)) ⟨none,0,[],rfl,rfl,rfl⟩
 refine IF ?_;intros;refine GO.ef (Ef.f8 du rw0 rfl rfl rfl ab ab ab ab) ag ?_;rintro _ _⟨bs,rfl,rfl⟩;rw[show(ms.length:Int).toNat=ms.length by omega];refine IF ?_;intros
 refine G.loop (α:=Nat×List RwV) (fun z=>z.1≤ms.length∧z.2.length=ms.length∧(z.2.take z.1).map RwV.m=(ms.take z.1).map RwV.m) (fun z=>[(1,.func (.func 209) #[] #[]),(5,ae (some ⟨bs,0,none⟩) ms.length ms.length),(14,ae ad ms.length c),(15,ac (ms.length:Int)),(16,ac (z.1:Int))])
  (fun z=>osl du 2 155 (some ⟨bs,0,none⟩) ms.length z.2::allP rwP (z.2.take z.1)::isl du 2 ad ms::allP rwP ms::L) (fun z=>ms.length - z.1) (0,List.replicate ms.length rw0) ⟨az _,by simp,by simp⟩ an ?_ ?_
 ·dsimp only;rw[bC];refine(Ent.e7 rwP).trans ?_;exact ah
 rintro⟨i,zs⟩ ⟨hi,a6,a0⟩;dsimp only at hi a6 a0 ⊢;by_cases a2:i<ms.length
 case neg =>
  have a7:i=ms.length:=ab;subst a7;rw[aB ab,aB ab] at a0;rw[aB (ab:zs.length≤ms.length)];refine IF ?_;intros;refine KX.d7 av (Ent.freezeSl) ⟨some ⟨bs,0,none⟩,ms.length,zs,by rw[a6];rfl,a0,rfl⟩
 have a4:(i:Int).toNat=i:=ab;have a5:ms[i]!∈ms:=aL a2;refine IF ?_;intros;rw[a4];refine GO.ent (Ent.at (A:=allP rwP ms) (Ent.d9 (x:=ms[i]!) a5)) ?_;refine GO.ef (Ef.d8 rfl rfl (Ar ms[i]! (hp _ a5))) ag ?_;rintro _ _⟨m',rfl,a8,rfl⟩;refine IF ?_;intros;refine GO.efu (Ef.e7 (e:=m') rfl rfl aJ aJ (la _) ab) ?_;rintro _ _ rfl;rw[a4];refine IF ?_;intros;refine⟨(i+1,zs.set i m'),⟨by dsimp only;omega,by dsimp only;simp;omega,?_⟩,by dsimp only;omega,?_,?_⟩
 ·dsimp only;rw[dp ab,aC a2,aR,aR,a0,←getElem!_of a2];simp[a8]
 ·dsimp only;rw[aU i];exact an
 ·dsimp only;rw[dp ab];refine Ent.d7 ?_;refine Ent.trans (B:=allP rwP (zs.take i)::rwP m'::isl du 2 ad ms::allP rwP ms::L) ah ?_;exact(Ent.d7 (Ent.l0 kc)).trans (Ent.j0 kc)
structure TbM where
 name:ByteArray
 rows:List RwM
 deriving Inhabited
structure TbV where
 name:ByteArray
 rows:List RwV
 ad:OA
 cap:Nat
 deriving Inhabited
def TbV.m(t:TbV):TbM:=⟨t.name,t.rows.map RwV.m⟩
def bK(t:TbV):LV:=[.string t.name,ae t.ad t.rows.length t.cap]
def kZ(t:TbV):∀u∈bK t,u.oneCell' = true:=by simp[bK,Value.oneCell']
instance:EncC bK:=⟨kZ⟩
def tbP(t:TbV):HP:=andP (isl du 2 t.ad t.rows) (allP rwP t.rows)
def jn(t:TbV):PersM (tbP t):=(bI _ _ _ _).and (cG kc)
def tb0:TbV:=⟨⟨#[]⟩,[],none,0⟩
def TbV.B(t:TbV):Prop:=t.rows.length≤64∧∀r∈t.rows,RwV.B r
def Aq{L:LH}(t:TbV)(hb:t.B) :
  Tri ai 120 #[aN (bK t)] (tbP t::L) (fun v L'=>∃t',v=aN (bK t')∧t'.m=t.m∧L' = tbP t'::tbP t::L):=by
 obtain⟨name,rows,ad,cap⟩:=t;obtain⟨a3,a4⟩:=hb;dsimp only at a3 a4;refine Tri.bd (args:=[aN (bK ⟨name,rows,ad,cap⟩)]) ?_;refine G.ent ((Ent.dup (jn _).pers).trans Ent.andE) ?_;refine IF ?_;intros;refine GO.ent (Ent.at (A:=isl du 2 ad rows) (Ent.d7 (Ent.at (A:=allP rwP rows) (Ent.refl _)))) ?_;refine GO.ca (An ad cap rows a3 a4) ?_;rintro _ _⟨a2,c',a0,rfl,a1,rfl⟩;refine IF ?_;intros;refine KX.d7 (by exact ResOk.cell rfl aJ (ResOk.nil)) ?_ ⟨⟨name,a0,a2,c'⟩,rfl,by simp only[TbV.m,a1],rfl⟩;refine Ent.trans (B:=isl du 2 a2 a0::allP rwP a0::tbP ⟨name,rows,ad,cap⟩::L) ah ?_;exact Ent.e8 (bI _ _ _ _) (cG kc)
def Am{L:LH}(ad:OA)(c:Nat)(ms:List TbV)(hl:ms.length≤64)(hp:∀m∈ms,TbV.B m) :
  Tri ai 119 #[ae ad ms.length c,.func (.func 120) #[] #[]] (isl bK 2 ad ms::allP tbP ms::L) (fun v L'=>∃a3 c' a1,v=ae a3 a1.length c'∧a1.map TbV.m=ms.map TbV.m∧L' = isl bK 2 a3 a1::allP tbP a1::isl bK 2 ad ms::allP tbP ms::L):=by
 refine Tri.bd ?_;by_cases h0:ms.length=0
 ·have e:ms=[]:=aW h0;subst e;refine IF ?_;intros;exact KX.d7 av ((Ent.e7 tbP).trans (Ent.f8 bK 2 none)) ⟨none,0,[],rfl,rfl,rfl⟩
 refine IF ?_;intros;refine GO.ef (Ef.f8 bK tb0 rfl rfl rfl ab ab ab ab) ag ?_;rintro _ _⟨bs,rfl,rfl⟩;rw[show(ms.length:Int).toNat=ms.length by omega];refine IF ?_;intros
 refine G.loop (α:=Nat×List TbV) (fun z=>z.1≤ms.length∧z.2.length=ms.length∧(z.2.take z.1).map TbV.m=(ms.take z.1).map TbV.m) (fun z=>[(1,.func (.func 120) #[] #[]),(5,ae (some ⟨bs,0,none⟩) ms.length ms.length),(14,ae ad ms.length c),(15,ac (ms.length:Int)),(16,ac (z.1:Int))])
  (fun z=>osl bK 2 153 (some ⟨bs,0,none⟩) ms.length z.2::allP tbP (z.2.take z.1)::isl bK 2 ad ms::allP tbP ms::L) (fun z=>ms.length - z.1) (0,List.replicate ms.length tb0) ⟨az _,by simp,by simp⟩ an ?_ ?_
 ·dsimp only;rw[bC];refine(Ent.e7 tbP).trans ?_;exact ah
 rintro⟨i,zs⟩ ⟨hi,a6,a0⟩;dsimp only at hi a6 a0 ⊢;by_cases a2:i<ms.length
 case neg =>
  have a7:i=ms.length:=ab;subst a7;rw[aB ab,aB ab] at a0;rw[aB (ab:zs.length≤ms.length)];refine IF ?_;intros;refine KX.d7 av (Ent.freezeSl) ⟨some ⟨bs,0,none⟩,ms.length,zs,by rw[a6];rfl,a0,rfl⟩
 have a4:(i:Int).toNat=i:=ab;have a5:ms[i]!∈ms:=aL a2;refine IF ?_;intros;rw[a4];refine GO.ent (Ent.at (A:=allP tbP ms) (Ent.d9 (x:=ms[i]!) a5)) ?_;refine GO.ef (Ef.d8 rfl rfl (Aq ms[i]! (hp _ a5))) ag ?_;rintro _ _⟨m',rfl,a8,rfl⟩;refine IF ?_;intros;refine GO.efu (Ef.e7 (e:=m') rfl rfl aJ aJ (kZ _) ab) ?_;rintro _ _ rfl;rw[a4];refine IF ?_;intros;refine⟨(i+1,zs.set i m'),⟨by dsimp only;omega,by dsimp only;simp;omega,?_⟩,by dsimp only;omega,?_,?_⟩
 ·dsimp only;rw[dp ab,aC a2,aR,aR,a0,←getElem!_of a2];simp[a8]
 ·dsimp only;rw[aU i];exact an
 ·dsimp only;rw[dp ab];refine Ent.d7 ?_;refine Ent.trans (B:=allP tbP (zs.take i)::tbP m'::isl bK 2 ad ms::allP tbP ms::L) ah ?_;exact(Ent.d7 (Ent.l0 jn)).trans (Ent.j0 jn)
structure TxM where
 name:ByteArray
 brs:List (Int×Int)
 deriving Inhabited
structure TxV where
 name:ByteArray
 brs:List (Int×Int)
 ad:OA
 cap:Nat
 deriving Inhabited
def TxV.m(t:TxV):TxM:=⟨t.name,t.brs⟩
def bN(t:TxV):LV:=[.string t.name,ae t.ad t.brs.length t.cap]
def kY(t:TxV):∀u∈bN t,u.oneCell' = true:=by simp[bN,Value.oneCell']
instance:EncC bN:=⟨kY⟩
def txP(t:TxV):HP:=isl aV 2 t.ad t.brs
def ka(t:TxV):PersM (txP t):=bI _ _ _ _
def tx0:TxV:=⟨⟨#[]⟩,[],none,0⟩
def TxV.B(t:TxV):Prop:=t.brs.length≤64
def xY{L:LH}(ad:OA)(n c:Nat)(xs:List (Int×Int))[Rds L ad (Int×Int) aV 2 xs](hn:n=xs.length)(hb:n≤1000000) :
  Tri ai 210 #[ae ad n c] L (fun v L'=>∃a1 a0,v=ae a1 xs.length a0∧L' = osl aV 2 157 a1 a0 xs::L):=by
 refine Tri.bd ?_;repeat' first|refine aa ?_|intro _|with_reducible refine CB.dec (fun _=>?_) (fun _=>?_)|with_reducible refine GB.dec (fun _=>?_) (fun _=>?_)|with_reducible refine CB.bool (fun _=>?_) (fun _=>?_)|with_reducible refine GB.bool (fun _=>?_) (fun _=>?_)
 ·have h:ad=none:=by assumption
  subst h;refine KX.l7 (.inl rfl) (nO (L:=L) (xs:=xs)) ?_;intro hx;subst hx;refine KX.d7 av (Ent.d8 aV 2 157) ⟨_,_,rfl,rfl⟩
 ·refine GO.ent (Ent.e9 (enc:=aV) (sz:=2) (xs:=[]) rfl rfl bH bH) ?_;refine GO.ef (Ef.j0 rfl rfl rfl rfl hn (fun e _=>gE e) fy fy) ag ?_;rintro _ _⟨a1,a0,rfl,rfl⟩;refine IF ?_;intros;refine KX.d7 av (Ent.refl _) ⟨a1,a0,rfl,rfl⟩
def Ap{L:LH}(t:TxV)(hb:t.B) :
  Tri ai 122 #[aN (bN t)] (txP t::L) (fun v L'=>∃t',v=aN (bN t')∧t'.m=t.m∧L' = txP t'::txP t::L):=by
 obtain⟨name,brs,ad,cap⟩:=t;unfold TxV.B at hb;dsimp only at hb;refine Tri.bd (args:=[aN (bN ⟨name,brs,ad,cap⟩)]) ?_;simp only[txP];refine IF ?_;intros;refine GO.ca (xY ad brs.length cap brs rfl ab) ?_;rintro _ _⟨a1,a0,rfl,rfl⟩;refine IF ?_;intros;refine KX.d7 (by exact ResOk.cell rfl aJ (ResOk.nil)) ?_ ⟨⟨name,brs,a1,a0⟩,rfl,rfl,rfl⟩;refine(Ent.frz a1).trans ?_;exact ah
def Al{L:LH}(ad:OA)(c:Nat)(ms:List TxV)(hl:ms.length≤64)(hp:∀m∈ms,TxV.B m) :
  Tri ai 121 #[ae ad ms.length c,.func (.func 122) #[] #[]] (isl bN 2 ad ms::allP txP ms::L) (fun v L'=>∃a3 c' a1,v=ae a3 a1.length c'∧a1.map TxV.m=ms.map TxV.m∧L' = isl bN 2 a3 a1::allP txP a1::isl bN 2 ad ms::allP txP ms::L):=by
 refine Tri.bd ?_;by_cases h0:ms.length=0
 ·have e:ms=[]:=aW h0;subst e;refine IF ?_;intros;exact KX.d7 av ((Ent.e7 txP).trans (Ent.f8 bN 2 none)) ⟨none,0,[],rfl,rfl,rfl⟩
 refine IF ?_;intros;refine GO.ef (Ef.f8 bN tx0 rfl rfl rfl ab ab ab ab) ag ?_;rintro _ _⟨bs,rfl,rfl⟩;rw[show(ms.length:Int).toNat=ms.length by omega];refine IF ?_;intros
 refine G.loop (α:=Nat×List TxV) (fun z=>z.1≤ms.length∧z.2.length=ms.length∧(z.2.take z.1).map TxV.m=(ms.take z.1).map TxV.m) (fun z=>[(1,.func (.func 122) #[] #[]),(5,ae (some ⟨bs,0,none⟩) ms.length ms.length),(14,ae ad ms.length c),(15,ac (ms.length:Int)),(16,ac (z.1:Int))])
  (fun z=>osl bN 2 160 (some ⟨bs,0,none⟩) ms.length z.2::allP txP (z.2.take z.1)::isl bN 2 ad ms::allP txP ms::L) (fun z=>ms.length - z.1) (0,List.replicate ms.length tx0) ⟨az _,by simp,by simp⟩ an ?_ ?_
 ·dsimp only;rw[bC];refine(Ent.e7 txP).trans ?_;exact ah
 rintro⟨i,zs⟩ ⟨hi,a6,a0⟩;dsimp only at hi a6 a0 ⊢;by_cases a2:i<ms.length
 case neg =>
  have a7:i=ms.length:=ab;subst a7;rw[aB ab,aB ab] at a0;rw[aB (ab:zs.length≤ms.length)];refine IF ?_;intros;refine KX.d7 av (Ent.freezeSl) ⟨some ⟨bs,0,none⟩,ms.length,zs,by rw[a6];rfl,a0,rfl⟩
 have a4:(i:Int).toNat=i:=ab;have a5:ms[i]!∈ms:=aL a2;refine IF ?_;intros;rw[a4];refine GO.ent (Ent.at (A:=allP txP ms) (Ent.d9 (x:=ms[i]!) a5)) ?_;refine GO.ef (Ef.d8 rfl rfl (Ap ms[i]! (hp _ a5))) ag ?_;rintro _ _⟨m',rfl,a8,rfl⟩;refine IF ?_;intros;refine GO.efu (Ef.e7 (e:=m') rfl rfl aJ aJ (kY _) ab) ?_;rintro _ _ rfl;rw[a4];refine IF ?_;intros;refine⟨(i+1,zs.set i m'),⟨by dsimp only;omega,by dsimp only;simp;omega,?_⟩,by dsimp only;omega,?_,?_⟩
 ·dsimp only;rw[dp ab,aC a2,aR,aR,a0,←getElem!_of a2];simp[a8]
 ·dsimp only;rw[aU i];exact an
 ·dsimp only;rw[dp ab];refine Ent.d7 ?_;refine Ent.trans (B:=allP txP (zs.take i)::txP m'::isl bN 2 ad ms::allP txP ms::L) ah ?_;exact(Ent.d7 (Ent.l0 ka)).trans (Ent.j0 ka)
structure CatM where
 items:List ItG
 rules:List RuM
 tables:List TbM
 taxes:List TxM
structure CatV where
 items:List ItG
 iad:OA
 icap:Nat
 rules:List RuV
 rad:OA
 rcap:Nat
 tables:List TbV
 tad:OA
 tcap:Nat
 taxes:List TxV
 xad:OA
 xcap:Nat
def CatV.m(c:CatV):CatM:=⟨c.items,c.rules.map RuV.m,c.tables.map TbV.m,c.taxes.map TxV.m⟩
def CatV.cells(c:CatV):LV:=[ae c.iad c.items.length c.icap,ae c.rad c.rules.length c.rcap,ae c.tad c.tables.length c.tcap,ae c.xad c.taxes.length c.xcap]
def catI(c:CatV):HP:=isl be 7 c.iad c.items
def catR(c:CatV):HP:=andP (isl bj 9 c.rad c.rules) (allP ruP c.rules)
def catT(c:CatV):HP:=andP (isl bK 2 c.tad c.tables) (allP tbP c.tables)
def catX(c:CatV):HP:=andP (isl bN 2 c.xad c.taxes) (allP txP c.taxes)
def catP(c:CatV):HP:=andP (catI c) (andP (catR c) (andP (catT c) (catX c)))
def sY(c:CatV):PersM (catI c):=bI _ _ _ _
def mX(c:CatV):PersM (catR c):=(bI _ _ _ _).and (cG jp)
def kw(c:CatV):PersM (catT c):=(bI _ _ _ _).and (cG jn)
def ku(c:CatV):PersM (catX c):=(bI _ _ _ _).and (cG ka)
def mY(c:CatV):PersM (catP c):=(sY c).and ((mX c).and ((kw c).and (ku c)))
structure CatV.B (c:CatV):Prop where
 items:c.items.length≤64
 rules:c.rules.length≤64
 tables:c.tables.length≤64
 taxes:c.taxes.length≤64
 ru:∀r∈c.rules,RuV.B r
 tb:∀r∈c.tables,TbV.B r
 tx:∀r∈c.taxes,TxV.B r
abbrev Em:List Stp:=[.ev 0,.ev 1,.ev 3,.ev 4,.ev 6,.ev 7,.ev 9,.ev 10,.ef 2,.ef 5,.ef 8,.ef 11,.ev 12,.ef 13]
def IS{φ ψ:Prop}(k:ψ)(h:Hid ψ→φ:=by intro k;(repeat (first|refine aa ?_|intro zzz|refine G.dr 16 1 Em ?_));(repeat revert zzz);exact Hid.out k):φ:=h ⟨k⟩
def oZ{L:LH}(c:CatV)(hb:c.B) :
  Tri ai 63 #[aN c.cells] (catP c::L) (fun v L'=>∃c',v=.agg c'.cells.toArray∧c'.m=c.m∧L' = catP c'::catP c::L):=by
 obtain⟨items,iad,icap,rules,rad,rcap,tables,tad,tcap,taxes,xad,xcap⟩:=c;obtain⟨c0,b4,b5,b6,b7,b8,b9⟩:=hb;dsimp only at c0 b4 b5 b6 b7 b8 b9;refine Tri.bd (args:=[aN (CatV.cells ⟨items,iad,icap,rules,rad,rcap,tables,tad,tcap,taxes,xad,xcap⟩)]) ?_;refine G.ent ((Ent.dup (mY _).pers).trans (Ent.andE.trans (Ent.d7 (Ent.andE.trans (Ent.d7 Ent.andE))))) ?_;simp only[catI,catR,catT,catX];refine G.ent (Ent.d7 (Ent.andE.trans (Ent.d7 (Ent.d7 (Ent.andE.trans (Ent.d7 (Ent.d7 Ent.andE))))))) ?_;refine IS ?_;intros;refine GPW.ca (vk iad items.length icap items rfl ab) ?_;rintro _ _⟨a6,a7,rfl,rfl⟩;refine IS ?_;intros;refine GPW.ent (Ent.at (A:=isl bj 9 rad rules) (Ent.d7 (Ent.at (A:=allP ruP rules) (Ent.refl _)))) ?_;refine GPW.ca (Ao rad rcap rules b4 b7) ?_;rintro _ _⟨a8,a9,a1,rfl,a4,rfl⟩;refine IS ?_;intros;refine GPW.ent (Ent.at (A:=isl bK 2 tad tables) (Ent.d7 (Ent.at (A:=allP tbP tables) (Ent.refl _)))) ?_;refine GPW.ca (Am tad tcap tables b5 b8) ?_;rintro _ _⟨b0,b1,a0,rfl,a3,rfl⟩;refine IS ?_;intros;refine GPW.ent (Ent.at (A:=isl bN 2 xad taxes) (Ent.d7 (Ent.at (A:=allP txP taxes) (Ent.refl _)))) ?_;refine GPW.ca (Al xad xcap taxes b6 b9) ?_;rintro _ _⟨b2,b3,a2,rfl,a5,rfl⟩;refine IS ?_;intros;refine KX.d7 (by exact ResOk.cell rfl aJ (ResOk.nil)) ?_ ⟨⟨items,a6,a7,a1,a8,a9,a0,b0,b1,a2,b2,b3⟩,rfl,by simp only[CatV.m,a4,a3,a5],rfl⟩;refine(Ent.frz a6).trans ?_;refine Ent.trans (B:=isl be 7 a6 items::isl bj 9 a8 a1::allP ruP a1::isl bK 2 b0 a0::allP tbP a0::isl bN 2 b2 a2::allP txP a2::catP ⟨items,iad,icap,rules,rad,rcap,tables,tad,tcap,taxes,xad,xcap⟩::L) ah ?_;refine(Ent.d7 ((Ent.e8 (bI _ _ _ _) (cG jp)).trans (Ent.d7 ((Ent.e8 (bI _ _ _ _) (cG jn)).trans (Ent.d7 (Ent.e8 (bI _ _ _ _) (cG ka))))))).trans ?_;refine(Ent.d7 (Ent.d7 (Ent.e8 ((bI _ _ _ _).and (cG jn)) ((bI _ _ _ _).and (cG ka))))).trans ?_;refine(Ent.d7 (Ent.e8 ((bI _ _ _ _).and (cG jp)) (((bI _ _ _ _).and (cG jn)).and ((bI _ _ _ _).and (cG ka))))).trans ?_;exact Ent.e8 (bI _ _ _ _) (((bI _ _ _ _).and (cG jp)).and (((bI _ _ _ _).and (cG jn)).and ((bI _ _ _ _).and (cG ka))))
end Go.Proofs.YtommnllbflbdmaaGreatDoor
namespace Go.V
def asl{α:Type}(enc:α→LV)(sz E:Nat)(ad:OA)(cap:Nat)(xs:List α):HP:=fun ι h =>
 osl enc sz E ad cap xs ι h∨((cap=xs.length∧xs.length≤maxLen)∧isl enc sz ad xs ι h)
class PickAsl (L:LH) (ad:OA) (α:outParam Type) (enc:outParam (α→LV)) (sz E:outParam Nat) (cap:outParam Nat) (xs:outParam (List α)) (R:outParam (LH)):Prop where
 perm:L.Perm (asl enc sz E ad cap xs::R)
instance {α:Type}(L:LH)(enc:α→LV)(sz E:Nat)(ad:OA)(cap:Nat)(xs:List α):PickAsl (asl enc sz E ad cap xs::L) ad α enc sz E cap xs L:=⟨List.Perm.refl _⟩
instance {α:Type}(A:HP)(L:LH)(enc:α→LV)(sz E:Nat)(ad:OA)(cap:Nat)(xs:List α)(R:LH)[h:PickAsl L ad α enc sz E cap xs R]:PickAsl (A::L) ad α enc sz E cap xs (A::R):=⟨(h.perm.cons A).trans (List.Perm.swap _ _ _)⟩
section
variable {α:Type}{θ:Th}{enc:α→LV}{sz E:Nat}{ad:OA}{cap:Nat}{xs:List α}{L:LH}{w:World}
def Sat.asl_cases(s:Sat θ (asl enc sz E ad cap xs::L) w):Sat θ (osl enc sz E ad cap xs::L) w∨((cap=xs.length∧xs.length≤maxLen)∧Sat θ (isl enc sz ad xs::L) w):=by
 obtain⟨ok,ι,h,a,b1,c,ι₀,h₁,h₂,d1,d2,d3,d4,e,d6⟩:=s;rcases e with e|⟨e1,e2⟩
 ·exact .inl ⟨ok,ι,h,a,b1,c,ι₀,h₁,h₂,d1,d2,d3,d4,e,d6⟩
 ·exact .inr ⟨e1,ok,ι,h,a,b1,c,ι₀,h₁,h₂,d1,d2,d3,d4,e2,d6⟩
def Ent.ofOsl:Ent (osl enc sz E ad cap xs::L) (asl enc sz E ad cap xs::L):=fun θ R w s=>by
 obtain⟨ok,ι,h,a,b1,c,ι₀,h₁,h₂,d1,d2,d3,d4,e,d6⟩:=s;exact⟨ok,ι,h,a,b1,c,ι₀,h₁,h₂,d1,d2,d3,d4,.inl e,d6⟩
def Ent.n5(hm:xs.length≤maxLen):Ent (isl enc sz ad xs::L) (asl enc sz E ad xs.length xs::L):=fun θ R w s=>by
 obtain⟨ok,ι,h,a,b1,c,ι₀,h₁,h₂,d1,d2,d3,d4,e,d6⟩:=s;exact⟨ok,ι,h,a,b1,c,ι₀,h₁,h₂,d1,d2,d3,d4,.inr ⟨⟨rfl,hm⟩,e⟩,d6⟩
def Sat.j0(s:Sat θ (asl enc sz E ad cap xs::L) w):RdSl w enc sz ad xs:=by
 rcases s.asl_cases with s|⟨_,s⟩
 ·exact s.osl_rd
 ·exact s.isl_rd
def Bb{R' : LH}[h:PickAsl L ad α enc sz E cap xs R']:∀θ R w,Sat θ (L++R) w→xs.length≤cap∧cap≤9223372036854775807:=fun θ R w s=>by
 rcases (s.perm (h.perm.append_right R)).asl_cases with s|⟨⟨e1,e2⟩,s⟩
 ·have:=s.osl_parts
  simp only[maxLen] at this;exact⟨this.2.1,ab⟩
 ·simp only[maxLen] at e2;omega
def Ent.n9:Ent (asl enc sz E ad cap xs::L) (isl enc sz ad xs::L):=fun θ R w s=>by
 rcases Sat.asl_cases (L:=L++R) s with s|⟨_,s⟩
 ·exact Ent.freezeSl θ R w s
 ·exact s
end
instance {α:Type}(L:LH)(enc:α→LV)(sz E:Nat)(ad:OA)(cap:Nat)(xs:List α):Rds (asl enc sz E ad cap xs::L) ad α enc sz xs:=⟨fun _ _ _ s=>Sat.j0 s⟩
section ops
variable {P:Program}{N:Nat}{env:Env}{L:LH}{ty:TypeId}
def Ef.n9{t:TypeId}{x y:Operand}{α:Type}{enc:α→LV}{b:Addr}{a7:OA}{n c n2 c2 sz E bb:Nat}{xs ys:List α}{z:LV}[ht:TySl P t E sz bb z][hr:Rds L (some b) α enc sz xs][hq:Rds L a7 α enc sz ys]
  (hx:evE env x=some (.slice (some b) n c)) (hy:evE env y=some (.slice a7 n2 c2)) (hn:n=xs.length) (hc:c=xs.length) (b6:n2=ys.length) (h0:0<ys.length) (hb:(xs.length+ys.length)*bb≤140737488355328) (hm:xs.length+ys.length≤9223372036854775807)
  : Ef P L env (.call { callee:=.builtin .append,args:=#[x,y],argTypes:=#[t,t] }) ty (fun v L'=>∃a6 a0,v=.slice a6 (xs++ys).length a0∧L' = osl enc sz E a6 a0 (xs++ys)::L) :=
 Ef.val (fun θ R a w ea s b7 pos af g=>by
  subst hn hc b6;obtain⟨f1,f2⟩:=hr.rd θ R w s;obtain⟨g1,g2⟩:=hq.rd θ R w s;obtain⟨ii,z0,i1,i2,i3,i4,i5⟩:=ht.parts;rcases g2 with g2|⟨a2,rfl,g3⟩
  ·subst g2;simp at h0
  have hold:∀j u,(xs.flatMap enc)[j]? = some u→w.cell? (b.add j)=some u:=by
   rcases f2 with f2|⟨a1,e1,f3⟩
   ·subst f2;simp
   ·cases e1;exact f3
  obtain⟨v',w',a3,ho,hg⟩:=run_append_arg_grows (P:=P) (w:=w) t ty E ii z0 sz bb ht.under i1 i2 i4 i5 (by rw[←ht.zlen,←i3];simp) ht.pos b xs.length xs.length (xs.flatMap enc) (fe f1) hold a2 ys.length c2 (ys.flatMap enc) (fe g1) g3 ab (by simp only[maxLen];omega) hb;obtain⟨b5,ho⟩:=ho;rcases ho with⟨_,hn⟩|⟨g',a0,a9,rfl,b3,b4,b8,b0,b1,a4⟩
  ·omega
  have b2:=py _ a3;have ok:θ.ok w':=⟨by rw[hg.tape];exact s.1.tape,by rw[hg.os];exact s.1.os,by rw[hg.output];exact s.1.output,cN s.1.drawn b2⟩
  have a5:∀x∈xs++ys,(enc x).length=sz:=fun x hx=>by
   rcases List.mem_append.1 hx with hx|hx
   ·exact f1 x hx
   ·exact g1 x hx
  have a8:(xs++ys).length=xs.length+ys.length:=by simp
  have s2:Sat θ (own g' (.cells a9 E (0,0))::(L++R)) w':=s.fresh ok b3 b4 (fun k x hk=>by rw[hg.block k (Array.getElem?_eq_some_iff.1 hk).1 bH];exact hk);have s3:=Sat.osl_mk (cap:=a0) s2 a5 ab b0 b1 (by rw[a8,a4];simp);refine⟨_,w',_,?_,⟨some ⟨g',0,none⟩,a0,by rw[a8],rfl⟩,s3⟩;simp[execOp,resolve,invoke,builtin,aP ea hx,aP ea hy,a3])
def Ef.m9{t:TypeId}{x y:Operand}{α:Type}{enc:α→LV}{ad a4:OA}{n c n2 c2 sz E bb cap:Nat}{xs ys:List α}{z:LV}{R1:LH}[ht:TySl P t E sz bb z][hp:PickAsl L ad α enc sz E cap xs R1][hq:Rds R1 a4 α enc sz ys]
  (hx:evE env x=some (.slice ad n c)) (hy:evE env y=some (.slice a4 n2 c2)) (hn:n=xs.length) (hc:c=cap) (a5:n2=ys.length) (h0:0<ys.length) (h1:∀e∈ys,∀u∈enc e,u.oneCell' = true) (hb:(xs.length+ys.length)*bb≤140737488355328) (hm:xs.length+ys.length≤9223372036854775807)
  : Ef P L env (.call { callee:=.builtin .append,args:=#[x,y],argTypes:=#[t,t] }) ty (fun v L'=>∃a1 a0,v=.slice a1 (xs++ys).length a0∧L' = asl enc sz E a1 a0 (xs++ys)::R1):=by
 intro θ R a w o next Q ha s e1 e2 a6
 have s1:=s.perm (hp.perm.append_right R)
 have own:∀{ad:OA} {cap n c:Nat},evE env x=some (.slice ad n c)→n=xs.length→c=cap→Sat θ (osl enc sz E ad cap xs::R1++R) w→Oper.wp P o a w next Q:=fun hx hn hc s2 =>
  Ef.j0 (L:=osl enc sz E _ _ xs::R1) (R1:=R1) (P:=P) (ty:=ty) (t:=t) hx hy hn hc a5 h1 hb hm θ R a w o next Q ha s2 e1 e2 (fun v L' w' ⟨a1,a0,q1,q2⟩ s'=>a6 v _ w' ⟨a1,a0,q1,rfl⟩ (by subst q2;exact Ent.ofOsl θ R w' s'))
 rcases Sat.asl_cases (L:=R1++R) s1 with s2|⟨⟨a2,a8⟩,s2⟩
 ·exact own hx hn hc s2
 ·cases ad with
  | none =>
   have h3:=s2.isl_rd.2
   have a3:xs=[]:=by
    rcases h3 with h3|⟨a',a7,_⟩
    ·exact h3
    ·cases a7
   have hz:cap=0:=by rw[a2,a3];rfl
   subst hz;refine own hx hn hc ?_;rw[a3];exact Sat.e9 enc sz E s2.tail
  | some b =>
   exact Ef.n9 (L:=isl enc sz (some b) xs::R1) (E:=E) (P:=P) (ty:=ty) (t:=t) (xs:=xs) hx hy hn (hc.trans a2) a5 h0 hb hm θ R a w o next Q ha s2 e1 e2 (fun v L' w' ⟨a1,a0,q1,q2⟩ s'=>a6 v _ w' ⟨a1,a0,q1,rfl⟩ (by
    subst q2;exact Ent.ofOsl θ R w' (s'.perm (List.Perm.swap _ _ _)).tail))
def Ef.l5{t:TypeId}{x y:Operand}{α:Type}{enc:α→LV}{ad:OA}{n c sz E bb cap b T:Nat}{xs:List α}{z cs:LV}{R1 R2:LH}(e:α)[ht:TySl P t E sz bb z][hp:PickAsl L ad α enc sz E cap xs R1][hq:PickObj R1 b T cs R2]
  (hx:evE env x=some (.slice ad n c)) (hy:evE env y=some (.slice (some ⟨b,0,none⟩) 1 1)) (he:cs=enc e) (hn:n=xs.length) (hc:c=cap) (hs:cs.length=sz) (h1:∀u∈cs,u.oneCell' = true) (hb:(xs.length+1)*bb≤140737488355328) (hm:xs.length+1≤9223372036854775807)
  : Ef P L env (.call { callee:=.builtin .append,args:=#[x,y],argTypes:=#[t,t] }) ty (fun v L'=>∃a1 a0,v=.slice a1 (xs++[e]).length a0∧L' = asl enc sz E a1 a0 (xs++[e])::R2):=by
 subst he
 have hrd:Rds R1 (some ⟨b,0,none⟩) α enc sz [e]:=⟨fun θ R w s=>by
  have hb:=Sat.obj_heap (R:=R) s hq.perm;refine⟨fun y hy=>by rw[List.mem_singleton.1 hy];exact hs,.inr ⟨_,rfl,fun i v hv=>?_⟩⟩;rw[gB,eV hb];simpa using hv⟩
 intro θ R a w o next Q ha s e1 e2 a2
 refine Ef.m9 (P:=P) (ty:=ty) (t:=t) (hp:=hp) (hq:=hrd) hx hy hn hc rfl (Nat.zero_lt_one) (fun y hy u hu=>by rw[List.mem_singleton.1 hy] at hu;exact h1 u hu) (by simpa using hb) (by simpa using hm) θ R a w o next Q ha s e1 e2 (fun v L' w' ⟨a1,a0,q1,q2⟩ s'=>a2 v _ w' ⟨a1,a0,q1,rfl⟩ ?_)
 subst q2;have s3:Sat θ (asl enc sz E a1 a0 (xs++[e])::(obj b T (enc e)::R2++R)) w':=s'.perm ((hq.perm.append_right R).cons _);exact(s3.perm (List.Perm.swap _ _ _)).tail
end ops
end Go.V
namespace Go.Proofs.YtommnllbflbdmaaGreatDoor
section
open Go.V
attribute [local irreducible] G GO GP GPW GPK Ev Ef EfR Ent CB GB Enters
structure FlM where
 id:Int
 step:Int
 kind:Int
 tick:Int
 actor:Int
 frm:Int
 to:Int
 item:Int
 n:Int
 parts:LL1
 made:List Int
 deriving Inhabited,DecidableEq
structure FlV where
 m:FlM
 pad:OA
 pcap:Nat
 mad:OA
 mcap:Nat
 deriving Inhabited
def bT(f:FlV):LV:=[ac f.m.id,ac f.m.step,ac f.m.kind,ac f.m.tick,ac f.m.actor,ac f.m.frm,ac f.m.to,ac f.m.item,ac f.m.n,ae f.pad f.m.parts.length f.pcap,ae f.mad f.m.made.length f.mcap]
def jT(t:FlV):∀u∈bT t,u.oneCell' = true:=by simp[bT,Value.oneCell']
instance:EncC bT:=⟨jT⟩
def flP(f:FlV):HP:=andP (isl ay 3 f.pad f.m.parts) (isl (encZ .i64) 1 f.mad f.m.made)
def lr(f:FlV):PersM (flP f):=(bI _ _ _ _).and (bI _ _ _ _)
def cR(s:StV):HP:=andP (stM s) (stP s)
def lC(s:StV):PersM (cR s):=(sj s).and (cG iQ)
structure LedM where
 shard:Int
 cat:CatM
 stk:Int→Int→LL1
 tot:Int→Int
 steps:List StM
 flows:List FlM
 imp:Int→LL1
 ret:Int→LL1
structure LedX where
 cat:CatV
 ms:Nat
 mt:Nat
 mi:Nat
 mr:Nat
 stk:List ((Int×Int)×Stk)
 tot:List (Int×Int)
 imp:List (Int×Stk)
 ret:List (Int×Stk)
 steps:List StV
 sad:OA
 scap:Nat
 flows:List FlV
 fad:OA
 fcap:Nat
abbrev tLed:Nat:=126
abbrev cQ:Nat:=65
abbrev dz:Nat:=89
def eU{κ:Type}[DecidableEq κ](m:List (κ×Stk))(k:κ):Stk:=(glk m k).getD ⟨none,0,[]⟩
structure LedF (S:LedM) (x:LedX):Prop where
 cat:x.cat.m=S.cat
 catB:x.cat.B
 stk:∀a i,(eU x.stk (a,i)).lots=S.stk a i
 full:∀p∈x.stk,p.2.lots≠[]
 tot:∀i,(glk x.tot i).getD 0=S.tot i
 steps:x.steps.map StV.m=S.steps
 flows:x.flows.map (·.m)=S.flows
 imp:∀i,(eU x.imp i).lots=S.imp i
 ret:∀i,(eU x.ret i).lots=S.ret i
structure LedM.Ok (S:LedM):Prop where
 shard:0≤S.shard∧S.shard<12
 steps:S.steps.length≤65536
 flows:S.flows.length≤64*S.steps.length
 stk:∀a i,(S.stk a i).length≤4096∧∀l∈S.stk a i,LotOk l
 tot:∀i,-((S.flows.length:Int)*1099511627776)≤S.tot i∧S.tot i≤1099511627776
abbrev bS(sh:Int)(x:LedX):LV:=[ac sh,ae x.cat.iad x.cat.items.length x.cat.icap,ae x.cat.rad x.cat.rules.length x.cat.rcap,ae x.cat.tad x.cat.tables.length x.cat.tcap,ae x.cat.xad x.cat.taxes.length x.cat.xcap,.map (some x.ms),.map (some x.mt),ae x.sad x.steps.length x.scap,ae x.fad x.flows.length x.fcap,.map (some x.mi),.map (some x.mr)]
abbrev ledL(b:Nat)(sh:Int)(x:LedX)(L:LH):LH :=
 obj b tLed (bS sh x)::gmap kvP Stk.v x.ms x.stk::gmap kvI encN x.mt x.tot::asl aX 7 cQ x.sad x.scap x.steps::asl bT 11 dz x.fad x.fcap x.flows::gmap kvI Stk.v x.mi x.imp::gmap kvI Stk.v x.mr x.ret::catP x.cat::allP (fun p:(Int×Int)×Stk=>stkP p.2) x.stk::allP cR x.steps::allP flP x.flows::allP (fun p:Int×Stk=>stkP p.2) x.imp::allP (fun p:Int×Stk=>stkP p.2) x.ret::L
def ledA(b:Nat)(S:LedM)(x:LedX):LH:=dy (LedF S x)::ledL b S.shard x []
def LedR(b:Nat)(S:LedM):HP:=hex fun x=>cY (ledA b S x)
def jP{b:Nat}{S:LedM}{L:LH}(x:LedX)(h:LedF S x):Ent (ledL b S.shard x L) (LedR b S::L) :=
 Ent.l7 (f:=ledA b S) x (Ent.pure h (Ent.refl _))
def led0(sh:Int)(c:CatM):LedM:=⟨sh,c,fun _ _=>[],fun _=>0,[],[],fun _=>[],fun _=>[]⟩
def LedM.now(S:LedM):Int:=(S.steps.getLast?.map (·.tick)).getD 0
abbrev BU:=ar7 [.ev 13]
def IX{φ ψ:Prop}(k:ψ)(h:Hid ψ→φ:=by intro k;(repeat (first|refine aa ?_|intro zzz|refine G.dr 22 3 BU ?_));(repeat revert zzz);exact Hid.out k):φ:=h ⟨k⟩
def uv{L R:LH}{b:Nat}{sh:Int}{x:LedX}[hp:PickObj L b tLed (bS sh x) R][hr:Rds L x.sad StV aX 7 x.steps](hl:x.steps.length≤100000) :
  Tri ai 213 #[aq b] L (rtQ (ac ((x.steps.getLast?.map (·.tick)).getD 0)) L):=by
 refine Tri.bd ?_;by_cases h0:x.steps.length=0
 ·refine IX ?_;intros;exact KX.d7 av (Ent.refl _) ⟨by rw[aW h0];rfl,rfl⟩
 ·refine IX ?_;intros;refine KX.d7 av (Ent.refl _) ⟨?_,rfl⟩
  have e:x.steps.getLast? = some x.steps[((x.steps.length:Int) - 1).toNat]!:=by
   rw[show((x.steps.length:Int) - 1).toNat=x.steps.length - 1 by omega,List.getLast?_eq_getElem?,getElem!_of ab,List.getElem?_eq_getElem]
  rw[e];rfl
def HT{S:LedM}{x:LedX}(h:LedF S x):(x.steps.getLast?.map (·.tick)).getD 0=S.now:=by
 unfold LedM.now;rw[←h.steps,List.getLast?_map,Option.map_map];rfl
def accP(n:Int):Prop:=0≤n∧n≤1073741824
instance:DecidablePred accP:=fun n=>by unfold accP;infer_instance
def kg{L:LH}(n:Int):Tri ai 212 #[ac n] L (rtQ (.bool (dB (accP n))) L):=by
 refine Tri.bd ?_;by_cases h1:0≤n
 ·by_cases h2:n≤1073741824
  ·refine IF ?_;intros;exact KX.d7 av (Ent.refl _) ⟨by rw[aZ h2,aZ (show accP n from⟨h1,h2⟩)];rfl,rfl⟩
  ·refine IF ?_;intros;exact KX.d7 av (Ent.refl _) ⟨by rw[aM h2,aM (fun h:accP n=>h2 h.2)];rfl,rfl⟩
 ·refine IF ?_;intros;exact KX.d7 av (Ent.refl _) ⟨by rw[aM (fun h:accP n=>h1 h.1)];rfl,rfl⟩
def Asks(f:FuncId)(p:Int→Bool):Prop:=∀(n:Int) (L:LH),Tri ai f #[ac n] L (rtQ (.bool (p n)) L)
def jZ:Asks 255 (fun n=>dB (n=0)):=by
 intro n L;refine Tri.bd (args:=[ac n]) ?_;refine IF ?_;intros;exact KX.en ⟨rfl,rfl⟩
def eK:Asks 256 (fun n=>dB (¬n=0)):=by
 intro n L;refine Tri.bd (args:=[ac n]) ?_;refine IF ?_;intros;exact KX.en ⟨rfl,rfl⟩
def lg:Asks 258 (fun _=>true):=by
 intro n L;refine Tri.bd (args:=[ac n]) ?_;refine IF ?_;intros;exact KX.en ⟨rfl,rfl⟩
def iM(k:Nat)(fp tp:Int→Bool)(m:MvM):Bool :=
 dB ((0≤m.item∧m.item<k)∧(1≤m.n∧m.n≤1099511627776)∧accP m.frm∧accP m.to∧m.frm≠m.to∧fp m.frm=true∧tp m.to=true∧m.parts.length=0)
abbrev BT:=ar8 [.ev 17,.ev 18,.ev 19,.ev 20,.ev 21,.ev 22,.ev 23,.ev 24,.ev 25,.ev 26,.ef 27,.ev 28,.ev 29,.ev 30,.ev 31,.ev 32,.ef 33,.ev 34,.ev 35,.ev 36,.ev 37,.ev 38,.ev 39,.ev 40,.ev 41,.ev 42,.ev 43,.ev 44,.ev 45,.ev 46,.ev 47,.ef 48,.ev 49,.ev 50,.ev 51,.ev 52,.ev 53,.ev 54,.ev 55,.ef 56,.ev 57,.ev 58]
abbrev BS:List Stp:=[.ev 0,.ev 1,.ef 2,.ev 3,.ev 4,.ev 5,.ev 7,.ev 8,.ef 6,.ev 9,.ev 10,.ev 11,.ev 12,.ev 13,.ev 16,.ev 17,.ef 14,.ef 15,.ev 18,.ev 19,.ev 20]
def IZ{φ ψ:Prop}(k:ψ)(h:Hid ψ→φ:=by intro k;(repeat (first|refine aa ?_|intro zzz|refine G.dr 93 1 BT ?_|refine G.dr 93 5 BS ?_));(repeat revert zzz);exact Hid.out k):φ:=h ⟨k⟩
def ES{L R:LH}{b:Nat}{sh:Int}{x:LedX}[hp:PickObj L b tLed (bS sh x) R](ff tf wf:FuncId)(fp tp:Int→Bool)(hf:Asks ff fp)(ht:Asks tf tp)(m:MvV)(hl:x.cat.items.length≤64) :
  Tri ai 214 #[aq b,aN (aT m),.agg #[.func (.func ff) #[] #[],.func (.func tf) #[] #[],.bool false,.func (.func wf) #[] #[]]] L (rtQ (.bool (iM x.cat.items.length fp tp m.m)) L):=by
 obtain⟨⟨frm,to,item,n,parts⟩,pad,pcap⟩:=m;refine Tri.bd (args:=[aq b,aN (aT ⟨⟨frm,to,item,n,parts⟩,pad,pcap⟩),.agg #[.func (.func ff) #[] #[],.func (.func tf) #[] #[],.bool false,.func (.func wf) #[] #[]]]) ?_;by_cases h1:0≤item
 case neg =>
  refine IZ ?_;intros;exact KX.d7 av ah ⟨by unfold iM;rw[aM (fun h=>h1 h.1.1)];rfl,rfl⟩
 by_cases h2:item<x.cat.items.length
 case neg =>
  refine IZ ?_;intros;exact KX.d7 av ah ⟨by unfold iM;rw[aM (fun h=>h2 h.1.2)];rfl,rfl⟩
 by_cases h3:1≤n
 case neg =>
  refine IZ ?_;intros;exact KX.d7 av ah ⟨by unfold iM;rw[aM (fun h=>h3 h.2.1.1)];rfl,rfl⟩
 by_cases h4:n≤1099511627776
 case neg =>
  refine IZ ?_;intros;exact KX.d7 av ah ⟨by unfold iM;rw[aM (fun h=>h4 h.2.1.2)];rfl,rfl⟩
 refine IZ ?_;intros;refine GPW.cr (kg frm) ?_;by_cases h5:accP frm
 case neg =>
  rw[aM h5];refine IZ ?_;intros;exact KX.d7 av ah ⟨by unfold iM;rw[aM (fun h=>h5 h.2.2.1)];rfl,rfl⟩
 rw[aZ h5];refine IZ ?_;intros;refine GPW.cr (kg to) ?_;by_cases h6:accP to
 case neg =>
  rw[aM h6];refine IZ ?_;intros;exact KX.d7 av ah ⟨by unfold iM;rw[aM (fun h=>h6 h.2.2.2.1)];rfl,rfl⟩
 rw[aZ h6];by_cases h7:frm=to
 case pos =>
  refine IZ ?_;intros;exact KX.d7 av ah ⟨by unfold iM;rw[aM (fun h=>h.2.2.2.2.1 h7)];rfl,rfl⟩
 refine IZ ?_;intros;refine GPW.ef (Ef.d8 rfl rfl (hf frm _)) ag ?_;rintro _ _⟨rfl,rfl⟩;cases h8:fp frm with
 | false =>
  refine IZ ?_;intros;exact KX.d7 av ah ⟨by unfold iM;rw[aM (fun h=>by have:=h.2.2.2.2.2.1;dsimp only at this;rw[h8] at this;cases this)];rfl,rfl⟩
 | true =>
  refine IZ ?_;intros;refine GPW.ef (Ef.d8 rfl rfl (ht to _)) ag ?_;rintro _ _⟨rfl,rfl⟩;cases h9:tp to with
  | false =>
   refine IZ ?_;intros;exact KX.d7 av ah ⟨by unfold iM;rw[aM (fun h=>by have:=h.2.2.2.2.2.2.1;dsimp only at this;rw[h9] at this;cases this)];rfl,rfl⟩
  | true =>
   refine IZ ?_;intros;refine KX.d7 av ah ⟨?_,rfl⟩;unfold iM;by_cases a0:parts.length=0
   ·rw[aZ (ab:((parts.length:Nat):Int)=0),aZ ⟨⟨h1,h2⟩,⟨h3,h4⟩,h5,h6,h7,h8,h9,a0⟩];rfl
   ·rw[aM (ab:¬((parts.length:Nat):Int)=0),aM (fun h=>a0 h.2.2.2.2.2.2.2)];rfl
def rL{c:CatV}{L:LH}:Ent (catP c::L) (isl be 7 c.iad c.items::catP c::L) :=
 (Ent.dup (mY c).pers).trans (Ent.andE.trans (Ent.d7 Ent.drop))
def rK{c:CatV}{L:LH}:Ent (catP c::L) (isl bj 9 c.rad c.rules::allP ruP c.rules::catP c::L) :=
 (Ent.dup (mY c).pers).trans (Ent.andE.trans (Ent.drop.trans (Ent.andE.trans ((Ent.d7 Ent.drop).trans Ent.andE))))
def pz{r:RuV}{L:LH}:Ent (ruP r::L) (amS r.take::amS r.give::amS r.back::L):=Ent.andE.trans (Ent.d7 Ent.andE)
def ie(n:Int):Prop:=1≤n∧n≤1048576
instance:DecidablePred ie:=fun n=>by unfold ie;infer_instance
def pH{L:LH}(n:Int):Tri ai 281 #[ac n] L (rtQ (.bool (dB (ie n))) L):=by
 refine Tri.bd ?_;by_cases h1:1≤n
 ·by_cases h2:n≤1048576
  ·refine IF ?_;intros;exact KX.d7 av (Ent.refl _) ⟨by rw[aZ h2,aZ (show ie n from⟨h1,h2⟩)];rfl,rfl⟩
  ·refine IF ?_;intros;exact KX.d7 av (Ent.refl _) ⟨by rw[aM h2,aM (fun h:ie n=>h2 h.2)];rfl,rfl⟩
 ·refine IF ?_;intros;exact KX.d7 av (Ent.refl _) ⟨by rw[aM (fun h:ie n=>h1 h.1)];rfl,rfl⟩
def ju(rule times:Int):Prop:=rule = -1∧times=0
instance (a b:Int):Decidable (ju a b):=by unfold ju;infer_instance
def pI{L:LH}(b:Nat)(s:StV):Tri ai 257 #[aq b,aN (aX s)] L (rtQ (.bool (dB (ju s.rule s.times))) L):=by
 refine Tri.bd ?_;by_cases h1:s.rule = -1
 ·by_cases h2:s.times=0
  ·refine IF ?_;intros;exact KX.d7 av ah ⟨by rw[aZ h2,aZ (show ju s.rule s.times from⟨h1,h2⟩)];rfl,rfl⟩
  ·refine IF ?_;intros;exact KX.d7 av ah ⟨by rw[aM h2,aM (fun h:ju s.rule s.times=>h2 h.2)];rfl,rfl⟩
 ·refine IF ?_;intros;exact KX.d7 av ah ⟨by rw[aM (fun h:ju s.rule s.times=>h1 h.1)];rfl,rfl⟩
def AmB(l:List (Int×Int)):Prop:=∀a∈l,0≤a.2∧a.2≤1099511627776
structure CatM.Ok (c:CatM):Prop where
 take:∀r∈c.rules,AmB r.take
 give:∀r∈c.rules,AmB r.give
 back:∀r∈c.rules,AmB r.back
def cq(rule:Int):Int:=if rule < -1 then -2 - rule else rule
def pO(r:RuM)(rule:Int):List (Int×Int):=if rule < -1 then r.back else r.give
def mJ(ms:List MvM)(times:Int)(a:Int×Int)(m:MvM):Prop:=m.frm=ms[0]!.frm∧m.to=0∧m.item=a.1∧m.n=a.2*times
def mV(t0 times:Int)(a:Int×Int)(m:MvM):Prop:=m.frm=0∧m.to=t0∧m.item=a.1∧m.n=a.2*times
def gS(rules:List RuM)(rule times:Int)(ms:List MvM):Prop :=
 (0≤cq rule∧cq rule<rules.length)∧ie times∧rules[(cq rule).toNat]!.spawn=false∧¬(rule < -1∧rules[(cq rule).toNat]!.chance ≥ rules[(cq rule).toNat]!.of_) ∧
 ms.length=rules[(cq rule).toNat]!.take.length+(pO rules[(cq rule).toNat]! rule).length ∧
 (∀i:Nat,i<rules[(cq rule).toNat]!.take.length→mJ ms times rules[(cq rule).toNat]!.take[i]! ms[i]!) ∧
 (∀i:Nat,i<(pO rules[(cq rule).toNat]! rule).length→mV (ms[rules[(cq rule).toNat]!.take.length]!).to times (pO rules[(cq rule).toNat]! rule)[i]! ms[rules[(cq rule).toNat]!.take.length+i]!)
noncomputable instance (a b c d):Decidable (gS a b c d):=Classical.propDecidable _
def RuV.given(r:RuV)(rule:Int):AmS:=if rule < -1 then r.back else r.give
def xu(r:RuV)(rule:Int):(r.given rule).l=pO r.m rule:=by unfold RuV.given pO;split<;>rfl
abbrev tRu:Nat:=79
instance:Inhabited MvM:=inferInstance
def jL(ms:List MvV){i:Nat}(h:i<ms.length):(ms.map MvV.m)[i]! = ms[i]!.m:=eD _ h
abbrev BR:=ar4 [.ev 6]
abbrev yE:=ar8 [.ev 17,.ev 18,.ev 19,.ev 20,.ev 21,.ev 22,.ev 23,.ev 24,.ev 25,.ev 26,.ev 27,.ev 28,.ev 29]
abbrev yD:=ar8 [.ev 17,.ev 18,.ev 19,.ev 20,.ev 21,.ev 22,.ev 23,.ev 24,.ev 25,.ev 26,.ev 27,.ev 28]
def bA{φ ψ:Prop}(k:ψ)(h:Hid ψ→φ:=by intro k;(with_reducible apply G.d7);first|refine G.dr 171 1 BR (Hid.out k)|refine G.dr 171 16 yE (Hid.out k)|refine G.dr 171 24 yD (Hid.out k)):φ:=h ⟨k⟩
def Jn{φ ψ:Prop}(k:ψ)(h:Hid ψ→φ:=by intro k;(repeat (first|refine aa ?_|intro zzz|refine bA ?_));(repeat revert zzz);exact Hid.out k):φ:=h ⟨k⟩
def pK{L R:LH}{b:Nat}{sh:Int}{x:LedX}[hp:PickObj L b tLed (bS sh x) R](s:StV)[e1:Rds L s.mad MvV aT 5 s.moves](hc:x.cat.m.Ok)(hB:x.cat.B)(f1:s.moves.length≤64)(b8:s.moves.length≤s.mcap)(hI:I64 s.rule) :
  Tri ai 259 #[aq b,aN (aX s)] (catP x.cat::L) (rtQ (.bool (dB (gS x.cat.m.rules s.rule s.times (s.moves.map MvV.m)))) (catP x.cat::L)):=by
 obtain⟨e3,e4⟩:=hI;have f3:=hB.rules;have d5:x.cat.m.rules.length=x.cat.rules.length:=by simp[CatV.m]
 refine Tri.bd ?_;repeat first|refine G.sm 2 ?_|refine bF ?_|intro _|refine bA ?_
 rename_i b3;refine G.d8 (α:=Unit) (fun _=>True) (fun _=>[(0,aq b),(3,aq b3),(4,.bool false),(5,ac (cq s.rule)),(6,.bool (dB (s.rule < -1)))]) (fun _=>obj b3 cQ (aX s)::catP x.cat::L) ?_ ?_
 ·by_cases hf:s.rule < -1
  ·refine Jn ?_;intros;refine⟨(),trivial,?_,by exact ah⟩;unfold cq;rw[if_pos hf];exact an
  ·refine Jn ?_;intros;refine⟨(),trivial,?_,by exact ah⟩;unfold cq;rw[if_neg hf];exact an
 rintro _ _;by_cases h1:0≤cq s.rule
 case neg =>
  refine Jn ?_;intros;exact KX.d7 av ah ⟨by rw[aM (fun h=>h1 h.1.1)];rfl,rfl⟩
 by_cases h2:cq s.rule<x.cat.rules.length
 case neg =>
  refine Jn ?_;intros;exact KX.d7 av ah ⟨by rw[aM (fun h=>h2 (by have:=h.1.2;omega))];rfl,rfl⟩
 refine Jn ?_;intros;refine GO.cr (pH s.times) ?_;by_cases h3:ie s.times
 case neg =>
  rw[aM h3];refine Jn ?_;intros;exact KX.d7 av ah ⟨by rw[aM (fun h=>h3 h.2.1)];rfl,rfl⟩
 rw[aZ h3];have c0:(cq s.rule).toNat<x.cat.rules.length:=ab;have a1:x.cat.rules[(cq s.rule).toNat]!∈x.cat.rules:=aL c0;have b4 : x.cat.m.rules[(cq s.rule).toNat]! = x.cat.rules[(cq s.rule).toNat]!.m:=eD RuV.m c0;have b5:x.cat.rules[(cq s.rule).toNat]!.m∈x.cat.m.rules:=alStd0List_mem_map_of_mem a1;refine GO.ent (Ent.at (A:=catP x.cat) rK) ?_;refine GO.ent (Ent.at (A:=allP ruP x.cat.rules) ((Ent.d9 (f:=ruP) a1).trans pz)) ?_;have e2:=hB.ru _ a1;have c7:=hc.take _ b5;have c6:=hc.give _ b5;have c5:=hc.back _ b5
 have a4:gS x.cat.m.rules s.rule s.times (s.moves.map MvV.m)↔(x.cat.rules[(cq s.rule).toNat]!.spawn=false∧¬(s.rule < -1∧x.cat.rules[(cq s.rule).toNat]!.chance ≥ x.cat.rules[(cq s.rule).toNat]!.of_)∧s.moves.length=x.cat.rules[(cq s.rule).toNat]!.take.l.length+(x.cat.rules[(cq s.rule).toNat]!.given s.rule).l.length ∧
   (∀i:Nat,i<x.cat.rules[(cq s.rule).toNat]!.take.l.length→mJ (s.moves.map MvV.m) s.times x.cat.rules[(cq s.rule).toNat]!.take.l[i]! (s.moves.map MvV.m)[i]!) ∧
   (∀i:Nat,i<(x.cat.rules[(cq s.rule).toNat]!.given s.rule).l.length→mV ((s.moves.map MvV.m)[x.cat.rules[(cq s.rule).toNat]!.take.l.length]!).to s.times (x.cat.rules[(cq s.rule).toNat]!.given s.rule).l[i]! (s.moves.map MvV.m)[x.cat.rules[(cq s.rule).toNat]!.take.l.length+i]!)):=by
  unfold gS;rw[b4,xu,aA];exact⟨fun h=>h.2.2,fun h=>⟨⟨h1,ab⟩,h3,h⟩⟩
 obtain⟨e5,c4⟩:=h3;obtain⟨f2,d6,e0⟩:=e2;simp only[AmB,RuV.m] at c7 c6 c5;have e6:(x.cat.rules[(cq s.rule).toNat]!.given s.rule).l.length≤64:=by unfold RuV.given;split<;>assumption
 have d4:∀a∈(x.cat.rules[(cq s.rule).toNat]!.given s.rule).l,0≤a.2∧a.2≤1099511627776:=by unfold RuV.given;split<;>assumption
 refine GO.ent (L':=amS (x.cat.rules[(cq s.rule).toNat]!.given s.rule)::amS x.cat.rules[(cq s.rule).toNat]!.take::isl bj 9 x.cat.rad x.cat.rules::catP x.cat::obj b3 cQ (aX s)::L) ?_ ?_
 ·unfold RuV.given;split
  ·exact ah
  ·exact ah
 repeat first|refine G.sm 8 ?_|refine bF ?_|intro _|refine bA ?_
 rename_i b7;have c9:∀h:s.rule < -1,x.cat.rules[(cq s.rule).toNat]!.given s.rule=x.cat.rules[(cq s.rule).toNat]!.back:=fun h=>if_pos h;have d0:∀h:¬s.rule < -1,x.cat.rules[(cq s.rule).toNat]!.given s.rule=x.cat.rules[(cq s.rule).toNat]!.give:=fun h=>if_neg h;clear b4 a1 b5 c6 c5 d6 e0 c0;generalize x.cat.rules[(cq s.rule).toNat]! = r at *;generalize r.given s.rule=gv at *;refine G.d8 (α:=Unit) (fun _=>True) (fun _=>[(0,aq b),(3,aq b3),(4,.bool false),(6,.bool (dB (s.rule < -1))),(7,aq b7),(8,ae gv.ad gv.l.length gv.cap)]) (fun _=>obj b7 tRu (bj r)::obj b3 cQ (aX s)::amS gv::amS r.take::catP x.cat::L) ?_ ?_
 ·by_cases hf:s.rule < -1
  ·rw[c9 hf];refine Jn ?_;intros;exact⟨(),trivial,an,by exact ah⟩
  ·rw[d0 hf];refine Jn ?_;intros;exact⟨(),trivial,an,by exact ah⟩
 rintro _ _;clear c9 d0;cases h4:r.spawn with
 | true =>
  refine Jn ?_;intros;rw[h4];refine Jn ?_;intros;exact KX.d7 av ah ⟨by rw[aM (fun h=>by have:=(a4.1 h).1;rw[h4] at this;cases this)];rfl,rfl⟩
 | false =>
 by_cases h5:s.rule < -1∧r.chance ≥ r.of_
 case pos =>
  obtain⟨a6,b6⟩:=h5;refine Jn ?_;intros;rw[h4];refine Jn ?_;intros;exact KX.d7 av ah ⟨by rw[aM (fun h=>(a4.1 h).2.1 ⟨a6,b6⟩)];rfl,rfl⟩
 by_cases h6:s.moves.length=r.take.l.length+gv.l.length
 case neg =>
  by_cases a6:s.rule < -1
  ·have b6:¬r.chance ≥ r.of_:=fun h=>h5 ⟨a6,h⟩;refine Jn ?_;intros;rw[h4];refine Jn ?_;intros;exact KX.d7 av ah ⟨by rw[aM (fun h=>h6 (a4.1 h).2.2.1)];rfl,rfl⟩
  ·refine Jn ?_;intros;rw[h4];refine Jn ?_;intros;exact KX.d7 av ah ⟨by rw[aM (fun h=>h6 (a4.1 h).2.2.1)];rfl,rfl⟩
 refine G.d8 (α:=Unit) (fun _=>True) (fun _=>[(0,aq b),(3,aq b3),(4,.bool false),(7,aq b7),(8,ae gv.ad gv.l.length gv.cap)]) (fun _=>obj b7 tRu (bj r)::obj b3 cQ (aX s)::amS gv::amS r.take::catP x.cat::L) ?_ ?_
 ·by_cases a6:s.rule < -1
  ·have b6:¬r.chance ≥ r.of_:=fun h=>h5 ⟨a6,h⟩;refine Jn ?_;intros;rw[h4];refine Jn ?_;intros;exact⟨(),trivial,an,by exact ah⟩
  ·refine Jn ?_;intros;rw[h4];refine Jn ?_;intros;exact⟨(),trivial,an,by exact ah⟩
 rintro _ _;have f5:r.take.l.length≤s.moves.length:=ab;have f0:(s.moves.map MvV.m)[0]! = (s.moves.map MvV.m)[(0:Int).toNat]!:=rfl;refine Jn ?_;intros;refine G.loop (α:=Nat) (fun i=>i≤r.take.l.length∧∀j:Nat,j<i→mJ (s.moves.map MvV.m) s.times r.take.l[j]! (s.moves.map MvV.m)[j]!) (fun i=>[(0,aq b),(3,aq b3),(4,.bool false),(7,aq b7),(8,ae gv.ad gv.l.length gv.cap),(81,ae r.take.ad r.take.l.length r.take.cap),(82,ac (r.take.l.length:Int)),(83,ac (i:Int))]) (fun _=>obj b7 tRu (bj r)::obj b3 cQ (aX s)::amS gv::amS r.take::catP x.cat::L) (fun i=>r.take.l.length - i) 0 ⟨az _,fun j h=>absurd h ab⟩ an (Ent.refl _) ?_;rintro i ⟨hi,c8⟩;by_cases d1:i<r.take.l.length
 case neg =>
  have b9:i=r.take.l.length:=ab;subst b9;haveI hrd:=Rds.drop e1 b8 r.take.l.length
  have d3:(s.moves.drop r.take.l.length).length=gv.l.length:=by rw[dQ];omega
  have a9:∀j:Nat,j<gv.l.length→(s.moves.map MvV.m)[r.take.l.length+j]! = (s.moves.drop r.take.l.length)[j]!.m:=by
   intro j hj;rw[jL _ ab,getElem!_of (ab:j<(s.moves.drop r.take.l.length).length),getElem!_of (ab:r.take.l.length+j<s.moves.length),List.getElem_drop]
  refine Jn ?_;intros;rw[aD,show s.moves.length - r.take.l.length=(s.moves.drop r.take.l.length).length by simp];generalize advA s.mad s.mcap 5 r.take.l.length=ad2 at hrd ⊢;generalize hq:s.moves.drop r.take.l.length=ms2 at hrd d3 a9 ⊢;generalize s.mcap - r.take.l.length=cap2;refine G.loop (α:=Nat) (fun i=>i≤gv.l.length∧∀j:Nat,j<i→mV ms2[0]!.m.to s.times gv.l[j]! ms2[j]!.m) (fun i=>[(0,aq b),(3,aq b3),(4,.bool false),(7,aq b7),(12,ae ad2 ms2.length cap2),(130,ae gv.ad gv.l.length gv.cap),(131,ac (gv.l.length:Int)),(132,ac (i:Int))]) (fun _=>obj b7 tRu (bj r)::obj b3 cQ (aX s)::amS gv::amS r.take::catP x.cat::L) (fun i=>gv.l.length - i) 0 ⟨az _,fun j h=>absurd h ab⟩ an (Ent.refl _) ?_;rintro i ⟨hi,b0⟩;by_cases a5:i<gv.l.length
  case neg =>
   have b9:i=gv.l.length:=ab;subst b9
   have c3:gS x.cat.m.rules s.rule s.times (s.moves.map MvV.m):=by
    refine a4.2 ⟨h4,h5,h6,c8,fun j hj=>?_⟩;rw[a9 j hj,show r.take.l.length=r.take.l.length+0 from rfl,a9 0 ab];exact b0 j hj
   refine Jn ?_;intros;exact KX.d7 av ah ⟨by rw[aZ c3];rfl,rfl⟩
  have a0:(i:Int).toNat=i:=ab;obtain⟨a7,a8⟩:=d4 _ (aL a5);have b2:0≤gv.l[i]!.2*s.times∧gv.l[i]!.2*s.times≤1099511627776*1048576:=⟨ed a7 ab,Int.mul_le_mul a8 c4 ab ab⟩;rw[show gv.l[i]! = gv.l[(i:Int).toNat]! by rw[a0]] at b2 a7 a8;obtain⟨c1,c2⟩:=b2
  have a2:¬mV ms2[0]!.m.to s.times gv.l[i]! ms2[i]!.m→dB (gS x.cat.m.rules s.rule s.times (s.moves.map MvV.m))=false:=fun h=>aM (fun h'=>h (by
   have h2:=(a4.1 h').2.2.2.2 i a5;rw[a9 i a5] at h2;have h3:=a9 0 ab;rw[Nat.add_zero] at h3;rw[h3] at h2;exact h2))
  by_cases h7:ms2[(i:Int).toNat]!.m.frm=0
  case neg =>
   refine Jn ?_;intros;exact KX.d7 av ah ⟨by rw[a2 (fun h=>h7 (by have:=h.1;rw[a0];exact this))];rfl,rfl⟩
  by_cases h8:ms2[(i:Int).toNat]!.m.to=ms2[(0:Int).toNat]!.m.to
  case neg =>
   refine Jn ?_;intros;exact KX.d7 av ah ⟨by rw[a2 (fun h=>h8 (by have:=h.2.1;rw[a0];exact this))];rfl,rfl⟩
  by_cases h9:ms2[(i:Int).toNat]!.m.item=gv.l[(i:Int).toNat]!.1
  case neg =>
   refine Jn ?_;intros;exact KX.d7 av ah ⟨by rw[a2 (fun h=>h9 (by have:=h.2.2.1;rw[a0];exact this))];rfl,rfl⟩
  by_cases a3:ms2[(i:Int).toNat]!.m.n=gv.l[(i:Int).toNat]!.2*s.times
  case neg =>
   refine Jn ?_;intros;exact KX.d7 av ah ⟨by rw[a2 (fun h=>a3 (by have:=h.2.2.2;rw[a0];exact this))];rfl,rfl⟩
  refine Jn ?_;intros;refine⟨i+1,⟨ab,?_⟩,ab,?_,by exact ah⟩
  ·intro j hj;rcases dl j i with h|h
   ·exact b0 j h
   ·obtain rfl:j=i:=ab;rw[a0] at h7 h8 h9 a3;exact⟨h7,h8,h9,a3⟩
  ·rw[aU i];exact an
 have a0:(i:Int).toNat=i:=ab;have b1:(s.moves.map MvV.m)[i]! = s.moves[(i:Int).toNat]!.m:=by rw[jL _ ab,a0]
 have d2:(s.moves.map MvV.m)[0]! = s.moves[(0:Int).toNat]!.m:=jL _ ab;obtain⟨a7,a8⟩:=c7 _ (aL d1);have b2:0≤r.take.l[i]!.2*s.times∧r.take.l[i]!.2*s.times≤1099511627776*1048576:=⟨ed a7 ab,Int.mul_le_mul a8 c4 ab ab⟩;rw[show r.take.l[i]! = r.take.l[(i:Int).toNat]! by rw[a0]] at b2 a7 a8;obtain⟨c1,c2⟩:=b2;have a2:¬mJ (s.moves.map MvV.m) s.times r.take.l[i]! (s.moves.map MvV.m)[i]!→dB (gS x.cat.m.rules s.rule s.times (s.moves.map MvV.m))=false:=fun h=>aM (fun h'=>h ((a4.1 h').2.2.2.1 i d1));have f4:(s.moves.map MvV.m).length=s.moves.length:=aA ..;by_cases h7:s.moves[(i:Int).toNat]!.m.frm=s.moves[(0:Int).toNat]!.m.frm
 case neg =>
  refine Jn ?_;intros;exact KX.d7 av ah ⟨by rw[a2 (fun h=>h7 (by have:=h.1;rw[b1,d2] at this;exact this))];rfl,rfl⟩
 by_cases h8:s.moves[(i:Int).toNat]!.m.to=0
 case neg =>
  refine Jn ?_;intros;exact KX.d7 av ah ⟨by rw[a2 (fun h=>h8 (by have:=h.2.1;rw[b1] at this;exact this))];rfl,rfl⟩
 by_cases h9:s.moves[(i:Int).toNat]!.m.item=r.take.l[(i:Int).toNat]!.1
 case neg =>
  refine Jn ?_;intros;exact KX.d7 av ah ⟨by rw[a2 (fun h=>h9 (by have:=h.2.2.1;rw[b1] at this;rw[a0] at this ⊢;exact this))];rfl,rfl⟩
 by_cases a3:s.moves[(i:Int).toNat]!.m.n=r.take.l[(i:Int).toNat]!.2*s.times
 case neg =>
  refine Jn ?_;intros;exact KX.d7 av ah ⟨by rw[a2 (fun h=>a3 (by have:=h.2.2.2;rw[b1] at this;rw[a0] at this ⊢;exact this))];rfl,rfl⟩
 refine Jn ?_;intros;refine⟨i+1,⟨ab,?_⟩,ab,?_,by exact ah⟩
 ·intro j hj;rcases dl j i with h|h
  ·exact c8 j h
  ·obtain rfl:j=i:=ab;rw[b1];rw[a0] at h7 h8 h9 a3 ⊢;exact⟨by rw[d2];exact h7,h8,h9,a3⟩
 ·rw[aU i];exact an
