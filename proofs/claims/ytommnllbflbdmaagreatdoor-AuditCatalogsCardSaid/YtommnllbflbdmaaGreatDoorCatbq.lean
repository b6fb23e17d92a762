/- Lemmas. -/
import Derived.Test.YtommnllbflbdmaaGreatDoorCatbp
set_option linter.all false
set_option maxHeartbeats 8000000
namespace Go.Proofs.YtommnllbflbdmaaGreatDoor
section
open Go.V
def stK:List StM→Nat
 | []=>0
 | s::ss=>mvK s.moves+stK ss
def stL(a i:Int):List StM→Nat
 | []=>0
 | s::ss=>lotsIn a i s.moves+stL a i ss
def nY:∀x y:List StM,stK (x++y)=stK x+stK y
 | [],y=>by show stK y=0+stK y;omega
 | s::x,y=>by
  have:=nY x y
  show mvK s.moves+stK (x++y)=mvK s.moves+stK x+stK y;omega
def FJ{l:List StM}{i:Nat}(h:i<l.length):stK (l.take (i+1))=stK (l.take i)+mvK l[i]!.moves:=by
 rw[aC h,nY,getElem!_of h];rfl
noncomputable def audG(flows:List FlM):Nat→LedM→List StM→Fd
 | i,S,[]=>if S.flows.length<flows.length then(20,S.shard,S.shard*4294967296+i) else(0,0,0)
 | i,S,s::ss =>
  if s.id≠S.shard*4294967296+i then(1,S.shard,S.shard*4294967296+i)
  else if(gTry S s).1≠0 then((gTry S s).1,S.shard,S.shard*4294967296+i)
  else if flows.length<(cS S s).flows.length∨(cS S s).flows.drop S.flows.length≠(flows.drop S.flows.length).take ((cS S s).flows.length - S.flows.length) then(20,S.shard,S.shard*4294967296+i)
  else audG flows (i+1) (cS S s) ss
noncomputable def audF(sh:Int)(c:CatM)(ss:List StM)(flows:List FlM):Fd:=if 0≤sh∧sh<12 then audG flows 0 (led0 sh c) ss else(1,sh,0)
def oQ{fl:List FlM}{i:Nat}{S:LedM}:audG fl i S []=if S.flows.length<fl.length then(20,S.shard,S.shard*4294967296+i) else(0,0,0):=rfl
def jY{fl:List FlM}{i:Nat}{S:LedM}{s:StM}{ss:List StM}:audG fl i S (s::ss) =
  if s.id≠S.shard*4294967296+i then(1,S.shard,S.shard*4294967296+i)
  else if(gTry S s).1≠0 then((gTry S s).1,S.shard,S.shard*4294967296+i)
  else if fl.length<(cS S s).flows.length∨(cS S s).flows.drop S.flows.length≠(fl.drop S.flows.length).take ((cS S s).flows.length - S.flows.length) then(20,S.shard,S.shard*4294967296+i)
  else audG fl (i+1) (cS S s) ss:=rfl
def qV(S:LedM)(s:StM):(cS S s).shard=S.shard:=by unfold cS;split<;>rfl
def nr(S:LedM)(s:StM):(cS S s).cat=S.cat:=by unfold cS;split<;>rfl
def kr(S:LedM)(s:StM):∃z,(cS S s).flows=S.flows++z:=by
 unfold cS;split
 ·exact⟨_,rfl⟩
 ·exact⟨[],(aO _).symm⟩
def xi{sh:Int}(h:0≤sh∧sh<12)(c:CatM):LedA 0 (led0 sh c) where
 g:={
  shard:=h
  steps:=az _
  flows:=aI _
  stk:=fun _ _=>⟨aI _,(fun _ q=>absurd q aH),List.Pairwise.nil⟩
  tot:=fun _=>⟨by show -(((0:Nat):Int)*1099511627776)≤0;omega,by show(0:Int)≤1099511627776;omega⟩
  fl:=fun _ q=>absurd q aH }
 fa:=fun _ q=>absurd q aH
 fn:=fun _ q=>absurd q (dU _)
 il:=aI _
 rl:=aI _
end
section
open Go.V
attribute [local irreducible] G GO GP GPW GPK Ev Ef EfR Ent CB GB V.Enters
def Dw{L:LH}(n k:Int)(hn:I64 n)(h2:1≤k)(h3:k≤9223372036854775807) :
  Tri ai 9 #[ac n,ac k] L (fun v L'=>∃p,v=ac p∧(0≤p∧p<k)∧L' = L):=by
 obtain⟨h0,h1⟩:=hn;refine Tri.bd ?_;by_cases h:n<0
 ·have g1:=eA (-(n+1)) (ab:k≠0);have g2:=dS (-(n+1)) (ab:0<k);refine IF ?_;intros;exact KX.en ⟨_,rfl,⟨g1,g2⟩,rfl⟩
 ·have g1:=eA n (ab:k≠0);have g2:=dS n (ab:0<k);refine IF ?_;intros;exact KX.en ⟨_,rfl,⟨g1,g2⟩,rfl⟩
def wP{L:LH}(ad:OA)(n c:Nat)(xs:List Int)[Rds L ad Int (encZ .i64) 1 xs](hn:n=xs.length)(hx:∀x∈xs,I64 x)(i k:Int)(hk:1≤k∧k≤9223372036854775807) :
  Tri ai 33 #[ae ad n c,ac i,ac k] L (fun v L'=>∃p,v=ac p∧(0≤p∧p<k)∧L' = L):=by
 subst hn;refine Tri.bd ?_;by_cases h0:0≤i
 case neg =>
  refine IF ?_;intros;exact KX.d7 av (Ent.refl _) ⟨0,rfl,ab,rfl⟩
 by_cases a1:i<xs.length
 case neg =>
  refine IF ?_;intros;exact KX.d7 av (Ent.refl _) ⟨0,rfl,ab,rfl⟩
 have a0:i.toNat<xs.length:=ab;refine IF ?_;intros;refine GO.ca (Dw xs[i.toNat]! k (hx _ (aL a0)) hk.1 hk.2) ?_;rintro _ _⟨p,rfl,hp,rfl⟩;refine IF ?_;intros;exact KX.en ⟨_,rfl,hp,rfl⟩
def wY:∀(ms:List MvV) {L:LH},(∀m∈ms,m.m.parts=[])→Ent L (allP mvP ms::L)
 | [],_,_=>Ent.e7 mvP
 | m::ms,L,h=>by
  have h1:mvP m=isl ay 3 m.pad []:=by show isl ay 3 m.pad m.m.parts=_;rw[h m au]
  have h2:Ent (mvP m::allP mvP ms::L) (allP mvP (m::ms)::L):=Ent.g9 (f:=mvP) iQ;rw[h1] at h2;exact(wY ms (fun x hx=>h x (aw _ hx))).trans ((Ent.f8 ay 3 m.pad).trans h2)
structure StG0 (s:StV):Prop where
 inp:StInG s
 cap:s.moves.length≤s.mcap
 form:(s.moves.length≤1∧∀m∈s.moves,m.m.parts.length≤1)∨(s.moves.length≤3∧∀m∈s.moves,m.m.parts=[])
 lots:(∀m∈s.m.moves,m.frm≠m.to)→∀a i,lotsIn a i s.m.moves≤1
def oA:∀{ms:List MvM},(∀m∈ms,m.parts=[])→mvK ms=ms.length
 | [],_=>rfl
 | m::ms,h=>by
  have h1:=oA (ms:=ms) (fun x hx=>h x (aw _ hx));have h2:m.parts.length=0:=by rw[h m au];rfl
  show(m.parts.length+1)+mvK ms=ms.length+1;omega
def StG0.k{s:StV}(h:StG0 s):mvK s.m.moves≤3:=by
 have hl:s.m.moves.length=s.moves.length:=aA _;rcases h.form with⟨h1,h2⟩|⟨h1,h2⟩
 ·show mvK (s.moves.map MvV.m)≤3;match hm:s.moves,h1,h2 with
  | [],_,_=>exact az _
  | [m],_,h2 =>
   have:=h2 m au
   show(m.m.parts.length+1)+0≤3;omega
 ·rw[oA (fun m hm=>by
   obtain⟨u,hu,rfl⟩:=List.mem_map.1 hm;exact h2 u hu),hl]
  exact h1
def nA{ms:List MvV}(h:∀m∈ms,m.m.parts=[]):(∀m∈ms,m.m.parts.length≤9223372036854775807)∧(∀m∈ms,m.m.parts.length≤m.pcap)∧∀m∈ms,∀p∈m.m.parts,p.1≤9223372036854775807 :=
 ⟨fun m hm=>by rw[h m hm];exact az _,fun m hm=>by rw[h m hm];exact az _,fun m hm p hp=>by rw[h m hm] at hp;cases hp⟩
def mvN(f t i n:Int):MvV:=⟨⟨f,t,i,n,[]⟩,none,0⟩
def kf(a0 times:Int)(tk gv:List (Int×Int)):List MvV:=tk.map (fun a=>mvN a0 0 a.1 (a.2*times))++gv.map (fun a=>mvN 0 a0 a.1 (a.2*times))
def qP(a0 times:Int)(tk gv:List (Int×Int)):∀m∈kf a0 times tk gv,m.m.parts=[]:=fun m hm=>by
 rcases List.mem_append.1 hm with h|h
 ·obtain⟨a,_,rfl⟩:=List.mem_map.1 h;rfl
 ·obtain⟨a,_,rfl⟩:=List.mem_map.1 h;rfl
def jz(rule:Int)(a0:Bool):Int:=if a0=true then -2 - rule else rule
def eC(r:RuV)(a0:Bool):AmS:=if a0=true then r.back else r.give
abbrev zn:=ar7 [.ev 13,.ev 14,.ev 15,.ef 16,.ef 17,.ev 18,.ef 19]
abbrev zm:=ar7 [.ev 13,.ev 14,.ev 15,.ef 16,.ef 17,.ev 18,.ef 19]
def el{φ ψ:Prop}(k:ψ)(h:Hid ψ→φ:=by intro k;(with_reducible apply G.d7);first|refine G.dr 96 10 zn (Hid.out k)|refine G.dr 96 14 zm (Hid.out k)):φ:=h ⟨k⟩
def TM{φ ψ:Prop}(k:ψ)(h:Hid ψ→φ:=by intro k;(repeat (first|refine aa ?_|intro zzz|refine el ?_));(repeat revert zzz);exact Hid.out k):φ:=h ⟨k⟩
def rt{L:LH}(c:CatV)(hB:c.B)(hc:c.m.Ok)(rule:Int)(hr:0≤rule∧rule<c.rules.length)(a1:Bool)(times a0 tick:Int)(ht:0≤times∧times≤1048576) :
  Tri ai 32 #[aN c.cells,ac rule,.bool a1,ac times,ac a0,ac tick] (catP c::L) (fun v L'=>∃mad mcap,v=aN (aX ⟨0,4,a0,tick,jz rule a1,times,kf a0 times c.rules[rule.toNat]!.take.l (eC c.rules[rule.toNat]! a1).l,mad,mcap⟩) ∧
   (kf a0 times c.rules[rule.toNat]!.take.l (eC c.rules[rule.toNat]! a1).l).length≤mcap∧L' = isl aT 5 mad (kf a0 times c.rules[rule.toNat]!.take.l (eC c.rules[rule.toNat]! a1).l)::catP c::L):=by
 obtain⟨d0,d1⟩:=hr;obtain⟨b0,c4⟩:=ht;have c3:rule.toNat<c.rules.length:=ab;have a2:=aL c3;have a9:=hB.ru _ a2;have a8:c.rules[rule.toNat]!.m∈c.m.rules:=alStd0List_mem_map_of_mem a2;have b4:=hc.take _ a8;have c2:=hc.give _ a8;have c1:=hc.back _ a8;have d2:=hB.rules;refine Tri.bd ?_;simp only[CatV.cells];refine G.ent (Ent.at (A:=catP c) rK) ?_;refine G.ent (Ent.at (A:=allP ruP c.rules) ((Ent.d9 (f:=ruP) a2).trans pz)) ?_;repeat first|refine G.sm 3 ?_|refine bF ?_|intro _|refine el ?_
 rename_i b6 a5 a6;refine G.d8 (α:=Unit) (fun _=>True) (fun _=>[(0,aN c.cells),(1,ac rule),(3,ac times),(4,ac a0),(6,aq b6),(12,aq a5),(13,aq a6),(14,ae (eC c.rules[rule.toNat]! a1).ad (eC c.rules[rule.toNat]! a1).l.length (eC c.rules[rule.toNat]! a1).cap)]) (fun _=>obj a6 cQ [ac 0,ac 4,ac a0,ac tick,ac (jz rule a1),ac times,ae none 0 0]::obj a5 cQ [ac 0,ac 0,ac 0,ac 0,ac 0,ac 0,ae none 0 0]::obj b6 33 [ae c.iad c.items.length c.icap,ae c.rad c.rules.length c.rcap,ae c.tad c.tables.length c.tcap,ae c.xad c.taxes.length c.xcap]::amS (eC c.rules[rule.toNat]! a1)::amS c.rules[rule.toNat]!.take::isl bj 9 c.rad c.rules::catP c::L) ?_ ?_
 ·cases a1 with
  | true =>
   have e1:jz rule true = -2 - rule:=rfl;have e2:eC c.rules[rule.toNat]! true=c.rules[rule.toNat]!.back:=rfl;rw[e1,e2];refine TM ?_;intros;exact⟨(),trivial,an,by exact ah⟩
  | false =>
   have e1:jz rule false=rule:=rfl;have e2:eC c.rules[rule.toNat]! false=c.rules[rule.toNat]!.give:=rfl;rw[e1,e2];refine TM ?_;intros;exact⟨(),trivial,an,by exact ah⟩
 rintro _ _;have c6:AmB (eC c.rules[rule.toNat]! a1).l:=by unfold eC;split;exact c1;exact c2
 have c8:(eC c.rules[rule.toNat]! a1).l.length≤64:=by unfold eC;split;exact a9.2.2;exact a9.2.1
 have d3:=a9.1;repeat first|refine G.sm 7 ?_|refine bF ?_|intro _|refine el ?_
 clear a2 a8 c2 c1 c3 a9;have b4:AmB c.rules[rule.toNat]!.take.l:=b4;generalize eC c.rules[rule.toNat]! a1=gv at *;generalize c.rules[rule.toNat]!.take=tk at *;refine TM ?_;intros;refine G.loop (α:=Nat×OA×Nat) (fun g=>g.1≤tk.l.length) (fun g=>[(0,aN c.cells),(3,ac times),(4,ac a0),(6,aq b6),(12,aq a5),(13,aq a6),(14,ae gv.ad gv.l.length gv.cap),(15,ae tk.ad tk.l.length tk.cap),(16,ac (g.1:Int))]) (fun g=>osl aT 5 tMv g.2.1 g.2.2 ((tk.l.take g.1).map (fun a=>mvN a0 0 a.1 (a.2*times)))::obj a6 cQ [ac 0,ac 4,ac a0,ac tick,ac (jz rule a1),ac times,ae g.2.1 ((tk.l.take g.1).map (fun a=>mvN a0 0 a.1 (a.2*times))).length g.2.2]::obj a5 cQ [ac 0,ac 0,ac 0,ac 0,ac 0,ac 0,ae none 0 0]::obj b6 33 [ae c.iad c.items.length c.icap,ae c.rad c.rules.length c.rcap,ae c.tad c.tables.length c.tcap,ae c.xad c.taxes.length c.xcap]::amS gv::amS tk::catP c::L) (fun g=>tk.l.length - g.1) (0,none,0) (az _) an ?_ ?_
 ·dsimp only;rw[bC,fk];refine(Ent.d8 aT 5 tMv).trans ?_;exact ah
 rintro⟨i,ad,cap⟩ hi;dsimp only at hi ⊢;by_cases a7:i<tk.l.length
 case pos =>
  have b5:(i:Int).toNat=i:=aD i;have a4 : (i:Int).toNat<tk.l.length:=ab;obtain⟨b2,b3⟩:=b4 _ (aL a4);have b7:0≤tk.l[(i:Int).toNat]!.2*times∧tk.l[(i:Int).toNat]!.2*times≤1099511627776*1048576:=⟨ed b2 b0,Int.mul_le_mul b3 c4 b0 ab⟩;obtain⟨b8,b9⟩:=b7
  have c0:((tk.l.take (i+1)).map (fun a=>mvN a0 0 a.1 (a.2*times)))=(tk.l.take i).map (fun a=>mvN a0 0 a.1 (a.2*times))++[mvN a0 0 tk.l[(i:Int).toNat]!.1 (tk.l[(i:Int).toNat]!.2*times)]:=by
   rw[aC a7,aR,b5,getElem!_of a7];rfl
  have c7:((tk.l.take i).map (fun a=>mvN a0 0 a.1 (a.2*times))).length≤128:=by
   simp only[ax,aA,bg];omega
  generalize hZ:((tk.l.take i).map (fun a=>mvN a0 0 a.1 (a.2*times)))=Z at *;refine TM ?_;intros;refine GPW.ef (Ef.d7 (enc:=aT) (e:=mvN a0 0 tk.l[(i:Int).toNat]!.1 (tk.l[(i:Int).toNat]!.2*times)) rfl rfl rfl rfl rfl aJ (km _) ab ab) ag ?_;rintro _ _⟨b1,a3,rfl,rfl⟩;refine TM ?_;intros;refine⟨(i+1,b1,a3),by dsimp only;omega,by dsimp only;omega,?_,?_⟩
  ·dsimp only;rw[aU i];exact an
  ·dsimp only;rw[c0];exact ah
 obtain rfl:i=tk.l.length:=ab;rw[cd];have c9:(tk.l.map (fun a=>mvN a0 0 a.1 (a.2*times))).length=tk.l.length:=aA _;refine TM ?_;intros;refine G.loop (α:=Nat×OA×Nat) (fun g=>g.1≤gv.l.length) (fun g=>[(0,aN c.cells),(3,ac times),(4,ac a0),(6,aq b6),(12,aq a5),(13,aq a6),(14,ae gv.ad gv.l.length gv.cap),(17,ac (g.1:Int))]) (fun g=>osl aT 5 tMv g.2.1 g.2.2 (tk.l.map (fun a=>mvN a0 0 a.1 (a.2*times))++(gv.l.take g.1).map (fun a=>mvN 0 a0 a.1 (a.2*times)))::obj a6 cQ [ac 0,ac 4,ac a0,ac tick,ac (jz rule a1),ac times,ae g.2.1 (tk.l.map (fun a=>mvN a0 0 a.1 (a.2*times))++(gv.l.take g.1).map (fun a=>mvN 0 a0 a.1 (a.2*times))).length g.2.2]::obj a5 cQ [ac 0,ac 0,ac 0,ac 0,ac 0,ac 0,ae none 0 0]::obj b6 33 [ae c.iad c.items.length c.icap,ae c.rad c.rules.length c.rcap,ae c.tad c.tables.length c.tcap,ae c.xad c.taxes.length c.xcap]::amS gv::amS tk::catP c::L) (fun g=>gv.l.length - g.1) (0,ad,cap) (az _) ?_ ?_ ?_
 ·exact an
 ·dsimp only;rw[bC,fk,aO];exact ah
 clear ad cap;rintro⟨i,ad,cap⟩ hi;dsimp only at hi ⊢;by_cases a7:i<gv.l.length
 case pos =>
  have b5:(i:Int).toNat=i:=aD i;have a4 : (i:Int).toNat<gv.l.length:=ab;obtain⟨b2,b3⟩:=c6 _ (aL a4);have b7:0≤gv.l[(i:Int).toNat]!.2*times∧gv.l[(i:Int).toNat]!.2*times≤1099511627776*1048576:=⟨ed b2 b0,Int.mul_le_mul b3 c4 b0 ab⟩;obtain⟨b8,b9⟩:=b7
  have c0:(tk.l.map (fun a=>mvN a0 0 a.1 (a.2*times))++(gv.l.take (i+1)).map (fun a=>mvN 0 a0 a.1 (a.2*times)))=tk.l.map (fun a=>mvN a0 0 a.1 (a.2*times))++(gv.l.take i).map (fun a=>mvN 0 a0 a.1 (a.2*times))++[mvN 0 a0 gv.l[(i:Int).toNat]!.1 (gv.l[(i:Int).toNat]!.2*times)]:=by
   rw[aC a7,aR,b5,getElem!_of a7,aF];rfl
  have c7:(tk.l.map (fun a=>mvN a0 0 a.1 (a.2*times))++(gv.l.take i).map (fun a=>mvN 0 a0 a.1 (a.2*times))).length≤128:=by
   simp only[ax,aA,bg];omega
  generalize hZ:(tk.l.map (fun a=>mvN a0 0 a.1 (a.2*times))++(gv.l.take i).map (fun a=>mvN 0 a0 a.1 (a.2*times)))=Z at *;refine TM ?_;intros;refine GPW.ef (Ef.d7 (enc:=aT) (e:=mvN 0 a0 gv.l[(i:Int).toNat]!.1 (gv.l[(i:Int).toNat]!.2*times)) rfl rfl rfl rfl rfl aJ (km _) ab ab) ag ?_;rintro _ _⟨b1,a3,rfl,rfl⟩;refine TM ?_;intros;refine⟨(i+1,b1,a3),by dsimp only;omega,by dsimp only;omega,?_,?_⟩
  ·dsimp only;rw[aU i];exact an
  ·dsimp only;rw[c0];exact ah
 obtain rfl:i=gv.l.length:=ab;rw[cd];rw[show tk.l.map (fun a=>mvN a0 0 a.1 (a.2*times))++gv.l.map (fun a=>mvN 0 a0 a.1 (a.2*times))=kf a0 times tk.l gv.l from rfl];generalize kf a0 times tk.l gv.l=Z;refine G.e8 (gg (ad:=ad) (cap:=cap) (xs:=Z) (enc:=aT) (sz:=5) (E:=tMv)) ?_;rintro⟨c5,_⟩;refine TM ?_;intros;exact KX.d7 (by exact ResOk.cell rfl aJ (ResOk.nil)) ((Ent.frz ad).trans ah) ⟨ad,cap,rfl,c5,rfl⟩
end
end Go.Proofs.YtommnllbflbdmaaGreatDoor
namespace Go.V
section tri
variable {P:Program}{f:FuncId}{args:Array Value}{L:LH}{post post' : Value→LH→Prop}
def Tri.e7{α:Type}{g:α→LH}(he:Enters P f)(h:∀x,Tri P f args (g x++L) post):Tri P f args (hex (fun x=>cY (g x))::L) post :=
 ⟨he,fun θ R w s=>by
  obtain⟨x,s1⟩:=Sat.ofHex (show Sat θ (hex (fun x=>cY (g x))::(L++R)) w from s);exact(h x).calls θ R w (by rw[aF];exact s1.ofStars)⟩
def Tri.d9{φ:Prop}(he:Enters P f)(h:φ→Tri P f args L post):Tri P f args (dy φ::L) post :=
 ⟨he,fun θ R w s=>(h (Sat.ofPure (show Sat θ (dy φ::(L++R)) w from s))).calls θ R w s.tail⟩
def Tri.conseq(h:Tri P f args L post)(hp:∀v L',post v L'→∃L'',post' v L''∧Ent L' L''):Tri P f args L post' :=
 ⟨h.enters,fun θ R w s=>(h.calls θ R w s).mono fun _ _ ⟨v,L',a,b,c⟩=>by
  obtain⟨L'',h1,h2⟩:=hp _ _ b;exact⟨v,L'',a,h1,h2 θ R _ c⟩⟩
def Tri.g9{φ:Prop}(he:Enters P f)(hφ:∀θ R w,Sat θ (L++R) w→φ)(h:φ→Tri P f args L post):Tri P f args L post :=
 ⟨he,fun θ R w s=>(h (hφ θ R w s)).calls θ R w s⟩
end tri
end Go.V
namespace Go.Proofs.YtommnllbflbdmaaGreatDoor
section
open Go.V
inductive LRep (sh:Int) (c:CatM):LedM→Prop
 | zero:LRep sh c (led0 sh c)
 | post {S:LedM} {s:StM}:LRep sh c S→(gTry S s).1=0→LRep sh c (cS S s)
def kR{S:LedM}{s:StM}(h:(gTry S s).1=0):gu S.cat S.now s:=by
 unfold gTry at h;by_cases h1:65536≤S.steps.length
 ·rw[if_pos h1] at h;exact absurd (show(4:Int)=0 from h) ag
 ·rw[if_neg h1] at h;by_cases h2:gu S.cat S.now s
  ·exact h2
  ·rw[if_pos h2] at h;exact absurd (show(1:Int)=0 from h) ag
def StG0.at{s:StV}(h:StG0 s)(id:Int):StG0 (s.at id):=⟨⟨h.inp.len,h.inp.rule,h.inp.parts,h.inp.cap,h.inp.bd⟩,h.cap,h.form,h.lots⟩
def sg:∀{l:List StV},(∀s∈l,StG0 s)→(stK (l.map StV.m))≤3*l.length
 | [],_=>aI _
 | s::l,h=>by
  have h1:=sg (l:=l) (fun u hu=>h u (aw _ hu));have h2:=(h s au).k;show mvK s.m.moves+stK (l.map StV.m)≤3*(l.length+1);omega
structure GenR (sh:Int) (i:Nat) (S:LedM) (x:RLX):Prop where
 rf:RF S x
 led:∃k,k≤3*i∧LedA k S
 cat:S.cat=Dt
 shard:S.shard=sh
 steps:S.steps.length≤i
 st:∀s∈x.steps,StG0 s
 ne:∀s∈x.steps,∀m∈s.m.moves,m.frm≠m.to
 rep:LRep sh Dt S
 cap:DF x.flows
def GenR.post{sh:Int}{i:Nat}{S:LedM}{x x' : RLX}{s:StV}(h:GenR sh i S x)(hi:3*i+3≤2000)(hs:StG0 s)(hF:RF (cS S s.m) x')(h0:(gTry S s.m).1=0→x'.steps=x.steps++[s.at (bu S)])(h1:(gTry S s.m).1≠0→x'.steps=x.steps)(h2:DF x.flows→DF x'.flows):GenR sh (i+1) (cS S s.m) x':=by
 obtain⟨k,hk,hl⟩:=h.led;have hm:=hs.k;have a1:=h.steps;have a0:=(qA (s:=s.m) hl ab).1;have hc:(cS S s.m).cat=Dt:=(nr S s.m).trans h.cat;have hd:(cS S s.m).shard=sh:=(qV S s.m).trans h.shard;by_cases e:(gTry S s.m).1=0
 ·have e1:cS S s.m=gZ S s.m:=if_pos e;refine⟨hF,⟨_,ab,a0⟩,hc,hd,?_,fun u hu=>?_,fun u hu=>?_,.post h.rep e,h2 h.cap⟩
  ·rw[e1];show(S.steps++[_]).length≤i+1;rw[ax,aG];omega
  ·rw[h0 e] at hu;rcases List.mem_append.1 hu with hu|hu
   ·exact h.st u hu
   ·rw[List.mem_singleton.1 hu];exact hs.at _
  ·rw[h0 e] at hu;rcases List.mem_append.1 hu with hu|hu
   ·exact h.ne u hu
   ·rw[List.mem_singleton.1 hu];intro m hm;have hp:=possG_A.1 (kR e);exact(hp.2.2.2.2.1 m hm).2.2.2.2.1
 ·have e1:cS S s.m=S:=if_neg e;rw[e1] at hF ⊢;refine⟨hF,⟨k,ab,hl⟩,h.cat,h.shard,ab,fun u hu=>?_,fun u hu=>?_,h.rep,h2 h.cap⟩
  ·rw[h1 e] at hu;exact h.st u hu
  ·rw[h1 e] at hu;exact h.ne u hu
structure GenB (x:RLX):Prop where
 ok:rOk x.stks
 stks:x.stks.length≤100000
 steps:x.steps.length≤100000
 flows:x.flows.length≤10000000
 fl:∀f∈x.flows,(1≤f.m.n∧f.m.n≤1099511627776)∧f.m.id≤9000000000000000000
 lots:∀s∈x.stks,∀l∈s.stk.lots,l.1≤9000000000000000000
def GenR.lens{sh:Int}{i:Nat}{S:LedM}{x:RLX}(h:GenR sh i S x):x.steps.length=S.steps.length∧x.flows.length=S.flows.length∧S.flows.length≤64*S.steps.length∧x.stks.length≤2*x.flows.length:=by
 obtain⟨k,hk,hl⟩:=h.led;refine⟨?_,?_,hl.g.flows,h.rf.len⟩
 ·rw[←h.rf.steps,aA]
 ·rw[←h.rf.flows,aA]
def yf{α:Type}(f:α→HP)(l:List α):allP f l=allP (fun x:HP=>x) (l.map f):=by
 unfold allP;funext i w;refine propext ⟨fun h x hx=>?_,fun h x hx=>h _ (alStd0List_mem_map_of_mem hx)⟩;obtain⟨y,hy,rfl⟩:=List.mem_map.1 hx;exact h y hy
def Ent.n7{α:Type}{f:α→HP}{l l' : List α}(h:∀y∈l',∃x∈l,f y=f x){L:LH}:Ent (allP f l::L) (allP f l'::L):=by
 rw[yf f l,yf f l'];refine Ent.l6 (f:=fun x:HP=>x) fun x hx=>?_;obtain⟨y,hy,rfl⟩:=List.mem_map.1 hx;obtain⟨z,hz,e⟩:=h y hy;rw[e];exact alStd0List_mem_map_of_mem hz
structure StSp (s:StV):Prop where
 inp:StInG s
 cap:s.moves.length≤s.mcap
 k:mvK s.m.moves≤4
def AO:∀ms:List MvM,ms.length≤mvK ms
 | []=>aI _
 | m::ms=>by
  have:=AO ms
  show ms.length+1≤(m.parts.length+1)+mvK ms;omega
def StSp.len{s:StV}(h:StSp s):s.moves.length≤4:=by
 have h1:=AO s.m.moves;have h2:=h.k;have h3:s.m.moves.length=s.moves.length:=aA _;omega
def StG0.sp{s:StV}(h:StG0 s):StSp s:=⟨h.inp,h.cap,by have:=h.k;omega⟩
structure MvSp (ms ms' : List MvV):Prop where
 img:∀y∈ms',∃x∈ms,y.pad=x.pad∧y.m.parts=x.m.parts∧y.pcap=x.pcap
def MvSp.ent{ms a0 : List MvV}(h:MvSp ms a0){L:LH}:Ent (allP mvP ms::L) (allP mvP a0::L) :=
 Ent.n7 fun y hy=>by
  obtain⟨x,hx,e1,e2,_⟩:=h.img y hy;exact⟨x,hx,by show isl ay 3 y.pad y.m.parts=isl ay 3 x.pad x.m.parts;rw[e1,e2]⟩
def MvSp.inp{s s' : StV}(h:MvSp s.moves s'.moves)(hs:StInG s)(hl:s'.moves.length≤4)(hr:I64 s'.rule):StInG s':=by
 refine⟨ab,hr,fun m hm=>?_,fun m hm=>?_,fun m hm=>?_⟩
 ·obtain⟨x,hx,e1,e2,e3⟩:=h.img m hm;rw[e2];exact hs.parts x hx
 ·obtain⟨x,hx,e1,e2,e3⟩:=h.img m hm;rw[e2,e3];exact hs.cap x hx
 ·obtain⟨x,hx,e1,e2,e3⟩:=h.img m hm;rw[e2];exact hs.bd x hx
def StG0.k0{s:StV}(h:StG0 s)(h0:0<s.moves.length):mvK (s.moves.map MvV.m)+(s.moves[0]!.m.parts.length+1)≤4:=by
 have hl:s.m.moves.length=s.moves.length:=aA _;rcases h.form with⟨h1,h2⟩|⟨h1,h2⟩
 ·match hm:s.moves,h1,h2,h0 with
  | [m],_,h2,_ =>
   have:=h2 m au
   show((m.m.parts.length+1)+0)+(m.m.parts.length+1)≤4;omega
 ·have h3:=h2 _ (aL h0)
  rw[h3,oA (fun m hm=>by
   obtain⟨u,hu,rfl⟩:=List.mem_map.1 hm;exact h2 u hu),aA]
  show s.moves.length+(0+1)≤4;omega
