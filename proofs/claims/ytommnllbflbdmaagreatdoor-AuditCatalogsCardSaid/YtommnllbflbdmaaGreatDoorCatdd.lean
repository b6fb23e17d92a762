/- Lemmas. -/
import Derived.Test.YtommnllbflbdmaaGreatDoorCatdc
set_option linter.all false
set_option maxHeartbeats 8000000
namespace Go.Proofs.YtommnllbflbdmaaGreatDoor
section
open Go.V
attribute [local irreducible] G GO GP GPW GPK Ev Ef EfR Ent CB GB V.Enters
def qd{L:LH}:Tri ai 220 #[.int .u8 66] L (rtQ (ac 7) L):=by
 refine Tri.bd ?_;refine IF ?_;intros;exact KX.en ⟨rfl,rfl⟩
def qe{L:LH}:Tri ai 220 #[.int .u8 32] L (rtQ (ac 0) L):=by
 refine Tri.bd ?_;refine IF ?_;intros;exact KX.en ⟨rfl,rfl⟩
def BC{L:LH}(s:ByteArray)(hs:s.size≤1000)(h1:0<s.size)(hk:(cW s)[0]! = 66) :
  Tri ai 218 #[.string s,ac 0] L (rtQ (ac 0) L):=by
 refine Tri.bd ?_;refine IF ?_;intros;refine G.d9 1 (GR.step ?_);refine IF ?_;intros;rw[dJ,hk];refine IF ?_;intros;rw[dJ,hk];refine IF ?_;intros;rw[dJ,hk];refine GO.cr (qd) ?_;refine IF ?_;intros;exact KX.en ⟨rfl,rfl⟩
def BD{L:LH}(s:ByteArray)(i:Nat)(hs:s.size≤1000)(hi:i+1<s.size)(hk:(cW s)[i]! = 32)(hw:WdB (cW s)[i+1]!) :
  Tri ai 218 #[.string s,ac (i:Int)] L (rtQ (ac ((i+1:Nat):Int)) L):=by
 refine Tri.bd ?_;refine IF ?_;intros;refine G.d9 2 (GR.step ?_);refine IF ?_;intros;rw[aD,hk];refine IF ?_;intros;rw[aD,hk];refine IF ?_;intros;rw[aD,hk];refine GO.cr (qe) ?_;refine IF ?_;intros;refine GR.step ?_;rw[show(i:Int)+1=((i+1:Nat):Int) by omega];have hb:=hw;unfold WdB at hb;obtain⟨c,hc⟩:∃c,(cW s)[i+1]! = c:=⟨_,rfl⟩;rw[hc] at hw hb;have a0:=qC c;refine IF ?_;intros;rw[aD,hc];refine IF ?_;intros;rw[aD,hc];refine IF ?_;intros;rw[aD,hc];refine GO.cr (fB c hw) ?_;refine IF ?_;intros;exact KX.en ⟨rfl,rfl⟩
def Fe{L:LH}(s:ByteArray)(hs:s.size≤1000)(h1:0<s.size)(hk:(cW s)[0]! = 66) :
  Tri ai 219 #[.string s,ac 0] L (rtQ (ac 0) L):=by
 refine Tri.bd ?_;refine IF ?_;intros;rw[dJ,hk];refine GO.ca (qd) ?_;rintro _ L ⟨rfl,rfl⟩;refine IF ?_;intros;exact KX.en ⟨rfl,rfl⟩
def pW{L:LH}(s:ByteArray)(st n:Nat)(hs:s.size≤1000)(a8:st<n)(hn:n≤s.size)(a2:WdB (cW s)[st]!)(a1:clsM (cW s)[st]! = 1)
  (hw:∀j,st<j→j<n→WdB (cW s)[j]!) (hx:n<s.size→(cW s)[n]! = 32) :
  Tri ai 219 #[.string s,ac (st:Int)] L (rtQ (ac (n:Int)) L):=by
 refine Tri.bd ?_;refine IF ?_;intros;rw[aD];refine GO.ca (fB _ a2) ?_;rintro _ L ⟨rfl,rfl⟩;rw[a1];refine IF ?_;intros
 refine G.loop (α:=Nat) (fun e=>st<e∧e≤n) (fun e=>[(0,.string s),(1,ac (st:Int)),(5,ac (e:Int))])
  (fun _=>L) (fun e=>n - e) (st+1) ⟨ab,ab⟩ (by rw[aU st];exact an) (Ent.refl _) ?_
 rintro e ⟨a3,a7⟩;by_cases a5:e<n
 case neg =>
  have a4:e=n:=ab;subst a4;by_cases hz:e<s.size
  ·have hc:=hx hz;refine IF ?_;intros;rw[aD,hc];refine GO.ca (qe) ?_;rintro _ L ⟨rfl,rfl⟩;refine IF ?_;intros;exact KX.en ⟨rfl,rfl⟩
  ·refine IF ?_;intros;exact KX.en ⟨rfl,rfl⟩
 have a0:=hw e a3 a5;obtain⟨c,hc⟩:∃c,(cW s)[e]! = c:=⟨_,rfl⟩;rw[hc] at a0;have a6:=qC c;refine IF ?_;intros;rw[aD,hc];refine GO.ca (fB c a0) ?_;rintro _ L ⟨rfl,rfl⟩;refine IF ?_;intros;rw[aD,hc];refine GO.ca (fB c a0) ?_;rintro _ L ⟨rfl,rfl⟩;refine IF ?_;intros;refine⟨e+1,⟨ab,ab⟩,ab,?_,Ent.refl _⟩;rw[aU e];exact an
abbrev nB1:ByteArray:=⟨#[66,105,103]⟩
abbrev nB2:ByteArray:=⟨#[97,98,99,100,101,102,103,104,105,106,107,108,109,110,111,112,113]⟩
abbrev nB3:ByteArray:=⟨#[97,32,98]⟩
def Ir:cW nB1=[66,105,103]:=by decide +kernel
def GG:cW nB2=[97,98,99,100,101,102,103,104,105,106,107,108,109,110,111,112,113]:=by decide +kernel
def CH:cW nB3=[97,32,98]:=by decide +kernel
def AB{c:Int}(h:97≤c∧c≤122):WdB c∧clsM c=1:=⟨.inl h,if_pos h⟩
def Iq:∀j,j<17→WdB (cW nB2)[j]!:=by
 intro j hj;have:∀j:Nat,j<17→97≤(cW nB2)[j]!∧(cW nB2)[j]!≤122:=by rw[GG];decide
 exact .inl (this j hj)
def TokB(v:Value):Prop:=∃ad n c k,v=.tuple #[ae ad n c,ac 0,ac k]∧(k=2∨k=4∨k=0∧(n=0∨n=2))
def vL{L:LH}(s:ByteArray)(a0:s.size=0):Tri ai 130 #[.string s] L (fun v L'=>TokB v∧L' = L):=by
 refine Tri.bd ?_;refine IF ?_;intros;refine GO.ca (kb s 0 ab (fun h=>by omega)) ?_;rintro _ L ⟨rfl,rfl⟩;refine IF ?_;intros;refine G.d9 1 (GR.step ?_);rw[Int.natCast_zero];refine IF ?_;intros;exact KX.en ⟨⟨_,_,_,_,rfl,.inr (.inr ⟨rfl,.inl rfl⟩)⟩,rfl⟩
def vK{L:LH}:Tri ai 130 #[.string nB1] L (fun v L'=>TokB v∧L' = L):=by
 have a0:nB1.size=3:=rfl;have hk:(cW nB1)[0]! = 66:=by rw[Ir];rfl
 revert a0 hk;generalize nB1=s;intro a0 hk;refine Tri.bd (args:=[.string s]) ?_;refine IF ?_;intros;refine GO.ca (BC s ab ab hk) ?_;rintro _ L ⟨rfl,rfl⟩;refine IF ?_;intros;refine G.d9 1 (GR.step ?_);refine IF ?_;intros;refine GO.ca (Fe s ab ab hk) ?_;rintro _ L ⟨rfl,rfl⟩;refine IF ?_;intros;exact KX.en ⟨⟨_,_,_,_,rfl,.inl rfl⟩,rfl⟩
def vJ{L:LH}:Tri ai 130 #[.string nB2] L (fun v L'=>TokB v∧L' = L):=by
 have a2:nB2.size=17:=rfl;have hw:=Iq;have a0:clsM (cW nB2)[0]! = 1:=by rw[GG];rfl
 revert a2 hw a0;generalize nB2=s;intro a2 hw a0;have a1:=hw 0 ab;refine Tri.bd (args:=[.string s]) ?_;refine IF ?_;intros;refine GO.ca (kb s 0 ab (fun _=>a1)) ?_;rintro _ L ⟨rfl,rfl⟩;refine IF ?_;intros;refine G.d9 1 (GR.step ?_);rw[Int.natCast_zero];refine IF ?_;intros;refine GO.ca (pW s 0 17 ab ab ab a1 a0 (fun j _ hj=>hw j hj) ab) ?_;rintro _ L ⟨rfl,rfl⟩;rw[show((17:Nat):Int)=(s.size:Int) by omega];refine IF ?_;intros;rw[dJ,aD,nI];rename_i b8;refine GO.cr (fB _ a1) ?_;rw[a0];refine IF ?_;intros;rw[dJ];refine GO.cr (fB _ a1) ?_;rw[a0];refine IF ?_;intros;exact KX.en ⟨⟨_,_,_,_,rfl,.inr (.inl rfl)⟩,rfl⟩
def xF(s:ByteArray)(i j:Nat)(h:j≤s.size):(s.extract i j).size=j - i:=by rw[ByteArray.size_extract];omega
def vI{L:LH}:Tri ai 130 #[.string nB3] L (fun v L'=>TokB v∧L' = L):=by
 have a4:nB3.size=3:=rfl;have w0:WdB (cW nB3)[0]!∧clsM (cW nB3)[0]! = 1:=by rw[CH];exact AB ag
 have w1:(cW nB3)[1]! = 32:=by rw[CH];rfl
 have w2:WdB (cW nB3)[2]!∧clsM (cW nB3)[2]! = 1:=by rw[CH];exact AB ag
 revert a4 w0 w1 w2;generalize nB3=s;intro a4 w0 w1 w2;obtain⟨a0,a2⟩:=w0;obtain⟨a1,a3⟩:=w2;refine Tri.bd (args:=[.string s]) ?_;refine IF ?_;intros;refine GO.ca (kb s 0 ab (fun _=>a0)) ?_;rintro _ L ⟨rfl,rfl⟩;refine IF ?_;intros;refine G.d9 3 (GR.step ?_);rw[Int.natCast_zero];refine IF ?_;intros;refine GO.ca (pW s 0 1 ab ab ab a0 a2 (fun j _ hj=>by omega) (fun _=>w1)) ?_;rintro _ L ⟨rfl,rfl⟩;rw[Int.natCast_one];refine IF ?_;intros;obtain⟨w,hw⟩:∃w,s.extract (Int.toNat 0) (Int.toNat 1)=w:=⟨_,rfl⟩;have b1:w.size=1:=by rw[←hw];exact xF s 0 1 ab
 rw[hw];rw[dJ];rename_i b8;refine GO.cr (fB _ a0) ?_;rw[a2];refine IF ?_;intros;rw[dJ];refine GO.cr (fB _ a0) ?_;rw[a2];refine IF ?_;intros;refine GO.ent (Ent.d8 encT 4 By) ?_;refine GO.ef (Ef.d7 (enc:=encT) (xs:=[]) (e:=(⟨0,w,0,0⟩:Tok)) rfl rfl rfl rfl rfl aJ (mW _) ag ag) ag ?_;rintro _ _⟨a9,a6,rfl,rfl⟩;simp only[aj];refine IF ?_;intros;refine GO.cr (BD s 1 ab ab w1 a1) ?_;refine IF ?_;intros;refine GR.step ?_;rw[show((1+1:Nat):Int)=2 from rfl];refine IF ?_;intros;refine GO.cr (pW s 2 3 ab ab ab a1 a3 (fun j _ hj=>by omega) (fun _=>by omega)) ?_;rw[show((3:Nat):Int)=3 from rfl];refine IF ?_;intros;obtain⟨w',a5⟩:∃w,s.extract (Int.toNat 2) (Int.toNat 3)=w:=⟨_,rfl⟩;have a8 : w'.size=1:=by rw[←a5];exact xF s 2 3 ab
 rw[a5];rw[show Int.toNat 2=2 from rfl];refine GO.cr (fB _ a1) ?_;rw[a3];refine IF ?_;intros;rw[show Int.toNat 2=2 from rfl];refine GO.cr (fB _ a1) ?_;rw[a3];refine IF ?_;intros;refine GO.ef (Ef.d7 (enc:=encT) (xs:=[⟨0,w,0,0⟩]) (e:=(⟨0,w',0,2⟩:Tok)) rfl rfl rfl rfl rfl aJ (mW _) bH bH) ag ?_;rintro _ _⟨b0,a7,rfl,rfl⟩;refine IF ?_;intros;refine GO.cr (kb s 3 ab (fun h=>by omega)) ?_;rw[show((3:Nat):Int)=3 from rfl];refine IF ?_;intros;refine GR.step ?_;refine IF ?_;intros;exact KX.en ⟨⟨_,_,_,_,rfl,.inr (.inr ⟨rfl,.inr rfl⟩)⟩,rfl⟩
def vG{L:LH}(s:ByteArray)(h:s∈badN):Tri ai 130 #[.string s] L (fun v L'=>TokB v∧L' = L):=by
 simp only[badN,bh,aH,or_false] at h;rcases h with rfl|rfl|rfl|rfl
 ·exact vL _ rfl
 ·exact vK
 ·exact vJ
 ·exact vI
def yl{L:LH}(s:ByteArray)(h:s∈badN):Tri ai 84 #[.string s] L (rtQ (.bool false) L):=by
 refine Tri.bd ?_;refine IF ?_;intros;refine GO.ca (vG s h) ?_;rintro _ _⟨⟨ad,n,c,k,rfl,h⟩,rfl⟩;rcases h with rfl|rfl|⟨rfl,rfl|rfl⟩
 ·refine IF ?_;intros;exact KX.en ⟨rfl,rfl⟩
 ·refine IF ?_;intros;exact KX.en ⟨rfl,rfl⟩
 ·refine IF ?_;intros;exact KX.en ⟨rfl,rfl⟩
 ·refine IF ?_;intros;exact KX.en ⟨rfl,rfl⟩
def yk{L:LH}(s:ByteArray)(h:NmB s):Tri ai 84 #[.string s] L (fun v L'=>∃b,v=.bool b∧(b=true→IsWord s)∧L' = L):=by
 rcases h with h|h
 ·exact(Bl s h).mono (fun v L' q=>⟨true,q.1,fun _=>h,q.2⟩)
 ·exact(yl s h).mono (fun v L' q=>⟨false,q.1,fun h=>absurd h ag,q.2⟩)
def iP{p:Prop}[Decidable p](h:dB p=false):¬p:=of_decide_eq_false (by rw[←eY];exact h)
def EH{L:LH}(ad:OA)(n c:Nat)(xs:List ByteArray)[hrd:Rds L ad ByteArray cx 1 xs](hn:n=xs.length)(hl:xs.length≤1000)(s:ByteArray) :
  Tri ai 85 #[ae ad n c,.string s] L (fun v L'=>∃b,v=.bool b∧(b=false→s∉xs)∧L' = L):=by
 subst hn;refine Tri.bd ?_;refine IF ?_;intros;refine G.loop (α:=Nat) (fun i=>i≤xs.length∧s∉xs.take i) (fun i=>[(0,ae ad xs.length c),(1,.string s),(5,ac (i:Int))]) (fun _=>L) (fun i=>xs.length - i) 0 ⟨az _,by simp⟩ an (Ent.refl _) ?_;rintro i ⟨hi,hm⟩;by_cases a0:i<xs.length
 case neg =>
  rw[aB ab] at hm;refine IF ?_;intros;exact KX.en ⟨false,rfl,fun _=>hm,rfl⟩
 by_cases hq:xs[i]! = s
 ·refine IF ?_;intros;rw[aD];refine IF ?_;intros;exact KX.d7 av (Ent.refl _) ⟨true,rfl,fun h=>absurd h ag,rfl⟩
 refine IF ?_;intros;rw[aD];refine IF ?_;intros;refine⟨i+1,⟨ab,?_⟩,ab,?_,Ent.refl _⟩
 ·rw[aC a0,←getElem!_of a0];intro h;rcases List.mem_append.1 h with h|h
  ·exact hm h
  ·exact hq (List.mem_singleton.1 h).symm
 rw[aU i];exact an
def Fr{l:List (Int×Int)}(h:AmW l)(i:Int):∀k,k≤l.length→-(k:Int)≤ey (l.take k) i∧ey (l.take k) i≤k*1099511627777:=by
 intro k;induction k with
 | zero=>intro _;simp[ey]
 | succ k ih =>
  intro hk;have a0:k<l.length:=hk;have hb:=h _ (aL a0);have:=ih ab
  rw[aC a0,mE,←getElem!_of a0];split<;>omega
def ph{L:LH}(ad:OA)(n c:Nat)(l:List (Int×Int))[hrd:Rds L ad (Int×Int) aV 2 l](hn:n=l.length)(hl:l.length≤64)(h:AmW l)(x:Int) :
  Tri ai 131 #[ae ad n c,ac x] L (rtQ (ac (ey l x)) L):=by
 subst hn;refine Tri.bd ?_;refine IF ?_;intros;refine G.loop (α:=Nat) (fun i=>i≤l.length) (fun i=>[(0,ae ad l.length c),(1,ac x),(5,ac (ey (l.take i) x)),(6,ac (i:Int))]) (fun _=>L) (fun i=>l.length - i) 0 (az _) an (Ent.refl _) ?_;intro i hi;by_cases a1:i<l.length
 case neg =>
  rw[aB ab];refine IF ?_;intros;exact KX.en ⟨rfl,rfl⟩
 have a0:(i:Int).toNat=i:=ab;have a3:=Fr h x i hi;have a2:=h _ (aL a1)
 have e:ey (l.take (i+1)) x=if l[i]!.1=x then ey (l.take i) x+l[i]!.2 else ey (l.take i) x:=by
  rw[aC a1,mE,getElem!_of a1]
 by_cases h1:l[i]!.1=x
 ·rw[if_pos h1] at e;refine IF ?_;intros;rw[a0];refine IF ?_;intros;rw[a0];refine IF ?_;intros;refine⟨i+1,ab,ab,?_,Ent.refl _⟩;rw[aU i,e];exact an
 ·rw[if_neg h1] at e;refine IF ?_;intros;rw[a0];refine IF ?_;intros;refine⟨i+1,ab,ab,?_,Ent.refl _⟩;rw[aU i,e];exact an
def sK{L:LH}(x:ItG)(h:ItS x):Tri ai 86 #[aN (be x)] L (fun v L'=>∃e,v=ac e∧(e≠1→if x.obj=true then x.mixed=false∧x.coin=false∧0≤x.bind∧x.bind≤2 else x.wear=0∧x.bind=0∧x.level=0)∧L' = L):=by
 obtain⟨-,⟨⟨w1,w2⟩,⟨b1,b2⟩,l1,l2⟩⟩:=h;obtain⟨name,ob,mixed,coin,wear,bind,level⟩:=x;dsimp only at w1 w2 b1 b2 l1 l2;refine Tri.bd (args:=[aN (be ⟨name,ob,mixed,coin,wear,bind,level⟩)]) ?_;simp only[be];repeat first|refine G.sn 1 ?_|refine bF ?_|intro
 rename_i bb;refine G.d8 (α:=Unit) (fun _=>True) (fun _=>[(1,aq bb),(3,.bool (dB (wear=0∧bind=0∧level=0)))]) (fun _=>obj bb 147 [.string name,.bool ob,.bool mixed,.bool coin,ac wear,ac bind,ac level]::L) ?_ ?_
 ·by_cases c1:wear=0
  ·by_cases c2:bind=0
   ·refine IF ?_;intros;rw[show dB (level=0)=dB (wear=0∧bind=0∧level=0) by congr 1;simp[c1,c2]];exact⟨(),trivial,an,Ent.refl _⟩
   ·refine IF ?_;intros;rw[aM (ab:¬(wear=0∧bind=0∧level=0))];exact⟨(),trivial,an,Ent.refl _⟩
  ·refine IF ?_;intros;rw[aM (ab:¬(wear=0∧bind=0∧level=0))];exact⟨(),trivial,an,Ent.refl _⟩
 rintro _ _;by_cases q1:bind<0
 ·refine IF ?_;intros;exact KX.en ⟨_,rfl,fun h=>absurd rfl h,rfl⟩
 by_cases q2:2<bind
 ·refine IF ?_;intros;exact KX.en ⟨_,rfl,fun h=>absurd rfl h,rfl⟩
 cases ob
 ·by_cases q3:wear=0∧bind=0∧level=0
  ·rw[aZ q3];obtain⟨r1,r2,r3⟩:=q3;refine IF ?_;intros;exact KX.en ⟨_,rfl,fun _=>⟨r1,r2,r3⟩,rfl⟩
  ·rw[aM q3];refine IF ?_;intros;exact KX.en ⟨_,rfl,fun h=>absurd rfl h,rfl⟩
 cases mixed
 case true =>
  refine IF ?_;intros;exact KX.en ⟨_,rfl,fun h=>absurd rfl h,rfl⟩
 cases coin
 case true =>
  refine IF ?_;intros;exact KX.en ⟨_,rfl,fun h=>absurd rfl h,rfl⟩
 by_cases q4:level<0
 ·refine IF ?_;intros;exact KX.d7 av ah ⟨_,rfl,fun _=>⟨rfl,rfl,ab⟩,rfl⟩
 by_cases q5:100<level
 ·refine IF ?_;intros;exact KX.d7 av ah ⟨_,rfl,fun _=>⟨rfl,rfl,ab⟩,rfl⟩
 by_cases q6:wear<1
 ·refine IF ?_;intros;exact KX.d7 av ah ⟨_,rfl,fun _=>⟨rfl,rfl,ab⟩,rfl⟩
 by_cases q7:1048576<wear
 ·refine IF ?_;intros;exact KX.d7 av ah ⟨_,rfl,fun _=>⟨rfl,rfl,ab⟩,rfl⟩
 refine IF ?_;intros;exact KX.d7 av ah ⟨_,rfl,fun _=>⟨rfl,rfl,ab⟩,rfl⟩
abbrev CA:=ar6 [.ev 10,.ev 11]
def aa2{φ ψ:Prop}(k:ψ)(h:Hid ψ→φ:=by intro k;(repeat (first|refine aa ?_|intro zzz|refine G.dr 42 6 CA ?_));(repeat revert zzz);exact Hid.out k):φ:=h ⟨k⟩
def qG{L:LH}(t:TbV)(h:TbS t):Tri ai 88 #[aN (bK t)] (isl du 2 t.ad t.rows::L) (fun v L'=>∃b1 b2 b3,v=CX b1 b2 b3∧(b1=false→b2=false→b3=false→(0<t.rows.length∧t.rows.length≤64)∧∀r∈t.rows,1≤r.weight∧r.weight≤1099511627776)∧L' = isl du 2 t.ad t.rows::L):=by
 have a2:=h.len;have a3:=h.rows;refine Tri.bd ?_;simp only[bK];refine aa2 ?_;intros;rename_i b1;refine G.loop (α:=Nat×Bool) (fun i=>i.1≤t.rows.length∧(i.2=false→∀r∈t.rows.take i.1,1≤r.weight∧r.weight≤1099511627776)) (fun i=>[(1,aq b1),(5,.bool i.2),(6,ac (i.1:Int))]) (fun _=>obj b1 153 [.string t.name,ae t.ad t.rows.length t.cap]::isl du 2 t.ad t.rows::L) (fun i=>t.rows.length - i.1) (0,false) ⟨az _,fun _ r hr=>absurd hr bH⟩ an (Ent.refl _) ?_;rintro⟨i,f⟩ ⟨hi,hf⟩;dsimp only at hi hf;by_cases a1:i<t.rows.length
 case neg =>
  rw[aB ab] at hf;refine aa2 ?_;intros;exact KX.d7 av ah ⟨_,_,_,rfl,fun k1 k2 k3=>⟨⟨by have:=iP k2;omega,by have:=iP k1;omega⟩,hf k3⟩,rfl⟩
 have a0:(i:Int).toNat=i:=ab;have hw:=(a3 _ (aL a1)).1;change -1≤t.rows[i]!.weight∧t.rows[i]!.weight≤1099511627777 at hw;cases f
 case true =>
  refine aa2 ?_;intros;refine⟨(i+1,true),⟨by dsimp only;omega,fun h=>absurd h bH⟩,by dsimp only;omega,?_,Ent.refl _⟩;dsimp only;rw[aU i];exact an
 by_cases hq:t.rows[i]!.weight<1
 ·refine aa2 ?_;intros;rw[a0];refine aa2 ?_;intros;refine⟨(i+1,true),⟨by dsimp only;omega,fun h=>absurd h bH⟩,by dsimp only;omega,?_,by exact ah⟩;dsimp only;rw[aU i];exact an
 ·refine aa2 ?_;intros;rw[a0];refine aa2 ?_;intros;rw[a0];refine aa2 ?_;intros;refine⟨(i+1,dB (1099511627776<t.rows[i]!.weight)),⟨by dsimp only;omega,fun h r hr=>?_⟩,by dsimp only;omega,?_,by exact ah⟩
  ·dsimp only at h hr;have:=iP h
   rw[aC a1,←getElem!_of a1] at hr;rcases List.mem_append.1 hr with hr|hr
   ·exact hf rfl r hr
   ·rw[List.mem_singleton.1 hr];omega
  dsimp only;rw[aU i];exact an
abbrev Cz:=ar8 [.ev 17,.ev 18,.ev 19,.ev 20,.ev 21,.ev 22,.ev 23,.ev 24,.ev 25,.ev 26]
def dC{φ ψ:Prop}(k:ψ)(h:Hid ψ→φ:=by intro k;(with_reducible apply G.d7);first|refine G.dr 78 7 Cz (Hid.out k)):φ:=h ⟨k⟩
def ab0{φ ψ:Prop}(k:ψ)(h:Hid ψ→φ:=by intro k;(repeat (first|refine aa ?_|intro zzz|refine dC ?_));(repeat revert zzz);exact Hid.out k):φ:=h ⟨k⟩
def rY{L:LH}(t:TxV)(h:TxS t):Tri ai 89 #[aN (bN t)] (isl aV 2 t.ad t.brs::L) (fun v L'=>∃b1 b2 b3,v=CX b1 b2 b3∧(b1=false→b2=false→b3=false→IsWord t.name→TxGood t.m)∧L' = isl aV 2 t.ad t.brs::L):=by
 have a9:=h.len;have a3:=h.brs;refine Tri.bd ?_;simp only[bN];refine ab0 ?_;intros;rename_i bb
 refine G.loop (α:=Nat×Bool×Bool) (fun i=>i.1≤t.brs.length∧(i.2.1=false→0<t.brs.length∧(0<i.1→t.brs[0]!.1=0)∧∀j,j+1<i.1→t.brs[j]!.1<t.brs[j+1]!.1)∧(i.2.2=false→∀b∈t.brs.take i.1,(0≤b.1∧b.1≤1099511627776)∧0≤b.2∧b.2≤10000)) (fun i=>[(1,aq bb),(5,.bool i.2.1),(6,.bool i.2.2),(7,ac (i.1:Int))]) (fun _=>obj bb 160 [.string t.name,ae t.ad t.brs.length t.cap]::isl aV 2 t.ad t.brs::L) (fun i=>t.brs.length - i.1) (0,dB ((t.brs.length:Int)=0),false)
  ⟨az _,fun h=>⟨by have:=iP h;omega,fun h=>absurd h bH,fun j h=>by dsimp only at h;omega⟩,fun _ r hr=>absurd hr bH⟩ an (Ent.refl _) ?_
 rintro⟨i,f,g⟩ ⟨hi,hf,hg⟩;dsimp only at hi hf hg;by_cases a2:i<t.brs.length
 case neg =>
  have b4:i=t.brs.length:=ab;rw[aB ab] at hg;refine ab0 ?_;intros;exact KX.d7 av ah ⟨_,_,_,rfl,fun k1 k2 k3 hw=>⟨hw,⟨(hf k2).1,by have:=iP k1;change t.brs.length≤16;omega⟩,(hf k2).2.1 (by have:=(hf k2).1;omega),(fun j hj=>(hf k2).2.2 j (by change j+1<t.brs.length at hj;omega)),hg k3⟩,rfl⟩
 have a6:(i:Int).toNat=i:=ab;have a1:=a3 _ (aL a2);change (-1≤t.brs[i]!.1∧t.brs[i]!.1≤1099511627777)∧-1≤t.brs[i]!.2∧t.brs[i]!.2≤1099511627777 at a1;repeat first|refine G.sn 6 ?_|refine bF ?_|intro _|refine dC ?_
 repeat first|refine G.sn 7 ?_|refine bF ?_|intro _|refine dC ?_
 rw[a6];simp only[aV];obtain⟨x,hx⟩:∃x,t.brs[i]! = x:=⟨_,rfl⟩;rw[hx] at a1 ⊢;obtain⟨⟨m1,m2⟩,m3,m4⟩:=a1;rename_i b8
 refine G.d8 (α:=Bool) (fun f'=>f' = false→f=false∧(i=0→x.1=0)∧(0<i→t.brs[i - 1]!.1<x.1)) (fun f'=>[(1,aq bb),(5,.bool f'),(6,.bool g),(7,ac (i:Int)),(8,aq b8)])
  (fun _=>obj b8 157 [ac x.1,ac x.2]::obj bb 160 [.string t.name,ae t.ad t.brs.length t.cap]::isl aV 2 t.ad t.brs::L) ?_ ?_
 ·cases f
  case true =>
   refine ab0 ?_;intros;exact⟨true,fun h=>absurd h ag,an,Ent.refl _⟩
  rcases fD i with h0|h0
  ·by_cases q:x.1=0
   ·refine ab0 ?_;intros;exact⟨false,fun _=>⟨rfl,fun _=>q,fun h=>by omega⟩,an,Ent.refl _⟩
   ·refine ab0 ?_;intros;exact⟨true,fun h=>absurd h ag,an,Ent.refl _⟩
  ·have b0:((i:Int) - 1).toNat=i - 1:=ab;refine ab0 ?_;intros;rw[b0];refine ab0 ?_;intros;exact⟨dB (x.1≤t.brs[i - 1]!.1),fun h=>⟨rfl,fun h=>by omega,fun _=>by have:=iP h;omega⟩,an,Ent.refl _⟩
 intro f' a4
 have a0:∀g',(g' = false→g=false∧(0≤x.1∧x.1≤1099511627776)∧0≤x.2∧x.2≤10000)→(fun i:Nat×Bool×Bool=>i.1≤t.brs.length∧(i.2.1=false→0<t.brs.length∧(0<i.1→t.brs[0]!.1=0)∧∀j,j+1<i.1→t.brs[j]!.1<t.brs[j+1]!.1)∧(i.2.2=false→∀b∈t.brs.take i.1,(0≤b.1∧b.1≤1099511627776)∧0≤b.2∧b.2≤10000)) (i+1,f',g'):=by
  intro g' a5;refine⟨by dsimp only;omega,fun h=>?_,fun h b hb=>?_⟩
  ·dsimp only at h;obtain⟨e1,e2,e3⟩:=a4 h;obtain⟨p1,p2,p3⟩:=hf e1;refine⟨p1,fun _=>?_,fun j hj=>?_⟩
   ·rcases fD i with h0|h0
    ·have:=e2 h0
     rw[←hx,h0] at this;exact this
    ·exact p2 h0
   ·dsimp only at hj;by_cases a8:j+1<i
    ·exact p3 j a8
    ·have a7:j=i - 1:=ab;rw[show j+1=i by omega,hx,a7];exact e3 ab
  ·dsimp only at h hb;obtain⟨e1,e2⟩:=a5 h;rw[aC a2,←getElem!_of a2] at hb;rcases List.mem_append.1 hb with hb|hb
   ·exact hg e1 b hb
   ·rw[List.mem_singleton.1 hb,hx];exact e2
 cases g
 case true =>
  refine ab0 ?_;intros;refine⟨(i+1,f',true),a0 true (fun h=>absurd h ag),by dsimp only;omega,?_,by exact ah⟩;dsimp only;rw[aU i];exact an
 by_cases q1:x.1<0
 ·refine ab0 ?_;intros;refine⟨(i+1,f',true),a0 true (fun h=>absurd h ag),by dsimp only;omega,?_,by exact ah⟩;dsimp only;rw[aU i];exact an
 by_cases q2:1099511627776<x.1
 ·refine ab0 ?_;intros;refine⟨(i+1,f',true),a0 true (fun h=>absurd h ag),by dsimp only;omega,?_,by exact ah⟩;dsimp only;rw[aU i];exact an
 by_cases q3:x.2<0
 ·refine ab0 ?_;intros;refine⟨(i+1,f',true),a0 true (fun h=>absurd h ag),by dsimp only;omega,?_,by exact ah⟩;dsimp only;rw[aU i];exact an
 refine ab0 ?_;intros;refine⟨(i+1,f',dB (10000<x.2)),a0 _ (fun h=>⟨rfl,ab,by have:=iP h;omega⟩),by dsimp only;omega,?_,by exact ah⟩;dsimp only;rw[aU i];exact an
abbrev Cy:=ar6 [.ev 11,.ev 12,.ev 13,.ev 14,.ev 15,.ev 16,.ev 17,.ev 18,.ef 10,.ef 19,.ev 20,.ev 21,.ev 22]
def bU{φ ψ:Prop}(k:ψ)(h:Hid ψ→φ:=by intro k;(with_reducible apply G.d7);first|refine G.dr 151 9 Cy (Hid.out k)):φ:=h ⟨k⟩
def ac2{φ ψ:Prop}(k:ψ)(h:Hid ψ→φ:=by intro k;(repeat (first|refine aa ?_|intro zzz|refine bU ?_));(repeat revert zzz);exact Hid.out k):φ:=h ⟨k⟩
def rp{L:LH}(r:RuV)(h:RuS r):Tri ai 87 #[aN (bj r)] (isl aV 2 r.take.ad r.take.l::isl aV 2 r.give.ad r.give.l::isl aV 2 r.back.ad r.back.l::L) (fun v L'=>∃b1 b2 b3,v=CX b1 b2 b3∧(b1=false→b2=false→b3=false→((r.back.l.length=0∨r.chance≠r.of_)∧(if r.spawn=true then r.take.l.length=0∧r.back.l.length=0∧r.level=0∧r.time=0∧r.chance=r.of_ else 0<r.take.l.length∨r.time≠0))∧(∀a∈r.back.l,ey r.back.l a.1≤ey r.take.l a.1)∧(0≤r.level∧r.level≤100)∧(0≤r.time∧r.time≤1000000)∧(1≤r.of_∧r.of_≤1000000)∧1≤r.chance∧r.chance≤r.of_)∧L' = isl aV 2 r.take.ad r.take.l::isl aV 2 r.give.ad r.give.l::isl aV 2 r.back.ad r.back.l::L):=by
 obtain⟨-,⟨⟨l1,l2⟩,⟨t1,t2⟩,⟨c1,c2⟩,o1,o2⟩,⟨ht,a6⟩,⟨hg,a5⟩,⟨hb,a4⟩⟩:=h;refine Tri.bd ?_;simp only[bj];repeat first|refine G.sn 1 ?_|refine bF ?_|intro _|refine bU ?_
 rename_i bb;repeat first|refine G.sn 2 ?_|refine bF ?_|intro _|refine bU ?_
 rw[aM (ab:¬((64:Int)<(r.take.l.length:Int)+r.back.l.length))];refine G.d8 (α:=Unit) (fun _=>True) (fun _=>[(1,aq bb),(5,.bool false),(6,.bool (dB (r.take.l.length=0∧r.time=0)))]) (fun _=>obj bb 79 [.string r.name,.bool r.spawn,ac r.level,ac r.time,ac r.chance,ac r.of_,ae r.take.ad r.take.l.length r.take.cap,ae r.give.ad r.give.l.length r.give.cap,ae r.back.ad r.back.l.length r.back.cap]::isl aV 2 r.take.ad r.take.l::isl aV 2 r.give.ad r.give.l::isl aV 2 r.back.ad r.back.l::L) ?_ ?_
 ·by_cases q:r.take.l.length=0
  ·refine ac2 ?_;intros;rw[show dB (r.time=0)=dB (r.take.l.length=0∧r.time=0) by congr 1;simp[q]];exact⟨(),trivial,an,Ent.refl _⟩
  ·refine ac2 ?_;intros;rw[aM (show ¬(r.take.l.length=0∧r.time=0) from fun h=>q h.1)];exact⟨(),trivial,an,Ent.refl _⟩
 rintro _ _;repeat first|refine G.sm 3 ?_|refine bF ?_|intro _|refine bU ?_
 refine G.d8 (α:=Bool) (fun f=>f=false→(if r.spawn=true then r.take.l.length=0∧r.back.l.length=0∧r.level=0∧r.time=0∧r.chance=r.of_ else 0<r.take.l.length∨r.time≠0)) (fun f=>[(1,aq bb),(5,.bool false),(6,.bool f)]) (fun _=>obj bb 79 [.string r.name,.bool r.spawn,ac r.level,ac r.time,ac r.chance,ac r.of_,ae r.take.ad r.take.l.length r.take.cap,ae r.give.ad r.give.l.length r.give.cap,ae r.back.ad r.back.l.length r.back.cap]::isl aV 2 r.take.ad r.take.l::isl aV 2 r.give.ad r.give.l::isl aV 2 r.back.ad r.back.l::L) ?_ ?_
 ·by_cases q:r.spawn=true
  ·rw[q];by_cases q1:0<r.take.l.length
   ·refine ac2 ?_;intros;exact⟨true,fun h=>absurd h ag,an,Ent.refl _⟩
   by_cases q2:0<r.back.l.length
   ·refine ac2 ?_;intros;exact⟨true,fun h=>absurd h ag,an,Ent.refl _⟩
   by_cases q3:r.level=0
   case neg =>
    refine ac2 ?_;intros;exact⟨true,fun h=>absurd h ag,an,Ent.refl _⟩
   by_cases q4:r.time=0
   case neg =>
    refine ac2 ?_;intros;exact⟨true,fun h=>absurd h ag,an,Ent.refl _⟩
   refine ac2 ?_;intros;exact⟨dB (¬r.chance=r.of_),fun h=>by have:=iP h;rw[if_pos rfl];omega,an,Ent.refl _⟩
  ·have q' : r.spawn=false:=by simpa using q
   rw[q'];refine ac2 ?_;intros;exact⟨dB (r.take.l.length=0∧r.time=0),fun h=>by have:=iP h;rw[if_neg ag];omega,an,Ent.refl _⟩
 intro f1 a2;repeat first|refine G.sn 5 ?_|refine bF ?_|intro _|refine bU ?_
 refine G.d8 (α:=Bool) (fun f=>f=false→((r.back.l.length=0∨r.chance≠r.of_)∧(if r.spawn=true then r.take.l.length=0∧r.back.l.length=0∧r.level=0∧r.time=0∧r.chance=r.of_ else 0<r.take.l.length∨r.time≠0))) (fun f=>[(1,aq bb),(5,.bool false),(6,.bool f)]) (fun _=>obj bb 79 [.string r.name,.bool r.spawn,ac r.level,ac r.time,ac r.chance,ac r.of_,ae r.take.ad r.take.l.length r.take.cap,ae r.give.ad r.give.l.length r.give.cap,ae r.back.ad r.back.l.length r.back.cap]::isl aV 2 r.take.ad r.take.l::isl aV 2 r.give.ad r.give.l::isl aV 2 r.back.ad r.back.l::L) ?_ ?_
 ·cases f1
  case true =>
   refine ac2 ?_;intros;exact⟨true,fun h=>absurd h ag,an,Ent.refl _⟩
  have a0:=a2 rfl;by_cases q:0<r.back.l.length
  case neg =>
   refine ac2 ?_;intros;exact⟨false,fun _=>⟨.inl ab,a0⟩,an,Ent.refl _⟩
  refine ac2 ?_;intros;exact⟨dB (r.chance=r.of_),fun h=>⟨.inr (iP h),a0⟩,an,Ent.refl _⟩
 intro f2 a0;refine ac2 ?_;intros;refine G.loop (α:=Nat×Bool) (fun i=>i.1≤r.back.l.length∧(i.2=false→((r.back.l.length=0∨r.chance≠r.of_)∧(if r.spawn=true then r.take.l.length=0∧r.back.l.length=0∧r.level=0∧r.time=0∧r.chance=r.of_ else 0<r.take.l.length∨r.time≠0))∧∀a∈r.back.l.take i.1,ey r.back.l a.1≤ey r.take.l a.1)) (fun i=>[(1,aq bb),(5,.bool false),(6,.bool i.2),(7,ac (i.1:Int))]) (fun _=>obj bb 79 [.string r.name,.bool r.spawn,ac r.level,ac r.time,ac r.chance,ac r.of_,ae r.take.ad r.take.l.length r.take.cap,ae r.give.ad r.give.l.length r.give.cap,ae r.back.ad r.back.l.length r.back.cap]::isl aV 2 r.take.ad r.take.l::isl aV 2 r.give.ad r.give.l::isl aV 2 r.back.ad r.back.l::L) (fun i=>r.back.l.length - i.1) (0,f2) ⟨az _,fun h=>⟨a0 h,fun a ha=>absurd ha bH⟩⟩ an (Ent.refl _) ?_;rintro⟨i,f⟩ ⟨hi,hf⟩;dsimp only at hi hf;by_cases a1:i<r.back.l.length
 case neg =>
  rw[aB ab] at hf;by_cases z0:r.level<0
  case pos =>
   refine ac2 ?_;intros;exact KX.d7 av ah ⟨_,_,_,rfl,fun _ _ h=>absurd h ag,rfl⟩
  by_cases z1:100<r.level
  case pos =>
   refine ac2 ?_;intros;exact KX.d7 av ah ⟨_,_,_,rfl,fun _ _ h=>absurd h ag,rfl⟩
  by_cases z2:r.time<0
  case pos =>
   refine ac2 ?_;intros;exact KX.d7 av ah ⟨_,_,_,rfl,fun _ _ h=>absurd h ag,rfl⟩
  by_cases z3:1000000<r.time
  case pos =>
   refine ac2 ?_;intros;exact KX.d7 av ah ⟨_,_,_,rfl,fun _ _ h=>absurd h ag,rfl⟩
  by_cases z4:r.of_<1
  case pos =>
   refine ac2 ?_;intros;exact KX.d7 av ah ⟨_,_,_,rfl,fun _ _ h=>absurd h ag,rfl⟩
  by_cases z5:1000000<r.of_
  case pos =>
   refine ac2 ?_;intros;exact KX.d7 av ah ⟨_,_,_,rfl,fun _ _ h=>absurd h ag,rfl⟩
  by_cases z6:r.chance<1
  case pos =>
   refine ac2 ?_;intros;exact KX.d7 av ah ⟨_,_,_,rfl,fun _ _ h=>absurd h ag,rfl⟩
  refine ac2 ?_;intros;exact KX.d7 av ah ⟨_,_,_,rfl,fun _ k2 k3=>⟨(hf k2).1,(hf k2).2,by have:=iP k3;omega⟩,rfl⟩
 have a3:(i:Int).toNat=i:=ab;cases f
 case true =>
  refine ac2 ?_;intros;refine⟨(i+1,true),⟨by dsimp only;omega,fun h=>absurd h bH⟩,by dsimp only;omega,?_,by exact ah⟩;dsimp only;rw[aU i];exact an
 refine ac2 ?_;intros;refine GPW.cr (ph r.back.ad r.back.l.length r.back.cap r.back.l rfl ab hb r.back.l[(i:Int).toNat]!.1) ?_;refine ac2 ?_;intros;refine GPW.cr (ph r.take.ad r.take.l.length r.take.cap r.take.l rfl ab ht r.back.l[(i:Int).toNat]!.1) ?_;rw[a3];refine ac2 ?_;intros;refine⟨(i+1,dB (ey r.take.l r.back.l[i]!.1<ey r.back.l r.back.l[i]!.1)),⟨by dsimp only;omega,fun h=>⟨(hf rfl).1,fun a ha=>?_⟩⟩,by dsimp only;omega,?_,by exact ah⟩
 ·dsimp only at h ha;have:=iP h
  rw[aC a1,←getElem!_of a1] at ha;rcases List.mem_append.1 ha with ha|ha
  ·exact(hf rfl).2 a ha
  ·rw[List.mem_singleton.1 ha];omega
 dsimp only;rw[aU i];exact an
