/- Lemmas. -/
import Derived.Test.YtommnllbflbdmaaGreatDoorFbp
set_option linter.all false
set_option maxHeartbeats 8000000
namespace Go.Proofs.YtommnllbflbdmaaGreatDoor
section
open Go.V
def stK:List StM→Nat
 | []=>0
 | s::ss=>mvK s.moves+stK ss
def stL(a i:Int):List StM→Nat
 | []=>0
 | s::ss=>lotsIn a i s.moves+stL a i ss
def oF:∀x y:List StM,stK (x++y)=stK x+stK y
 | [],y=>by show stK y=0+stK y;omega
 | s::x,y=>by
  have:=oF x y
  show mvK s.moves+stK (x++y)=mvK s.moves+stK x+stK y;omega
def GZ{l:List StM}{i:Nat}(h:i<l.length):stK (l.take (i+1))=stK (l.take i)+mvK l[i]!.moves:=by
 rw[aG h,oF,getElem!_of h];rfl
noncomputable def audG(flows:List FlM):Nat→LedM→List StM→Fd
 | i,S,[]=>if S.flows.length<flows.length then(20,S.shard,S.shard*4294967296+i) else(0,0,0)
 | i,S,s::ss =>
  if s.id≠S.shard*4294967296+i then(1,S.shard,S.shard*4294967296+i)
  else if(gTry S s).1≠0 then((gTry S s).1,S.shard,S.shard*4294967296+i)
  else if flows.length<(cM S s).flows.length∨(cM S s).flows.drop S.flows.length≠(flows.drop S.flows.length).take ((cM S s).flows.length - S.flows.length) then(20,S.shard,S.shard*4294967296+i)
  else audG flows (i+1) (cM S s) ss
noncomputable def audF(sh:Int)(c:CatM)(ss:List StM)(flows:List FlM):Fd:=if 0≤sh∧sh<12 then audG flows 0 (led0 sh c) ss else(1,sh,0)
def sQ{fl:List FlM}{i:Nat}{S:LedM}:audG fl i S []=if S.flows.length<fl.length then(20,S.shard,S.shard*4294967296+i) else(0,0,0):=rfl
def ld{fl:List FlM}{i:Nat}{S:LedM}{s:StM}{ss:List StM}:audG fl i S (s::ss) =
  if s.id≠S.shard*4294967296+i then(1,S.shard,S.shard*4294967296+i)
  else if(gTry S s).1≠0 then((gTry S s).1,S.shard,S.shard*4294967296+i)
  else if fl.length<(cM S s).flows.length∨(cM S s).flows.drop S.flows.length≠(fl.drop S.flows.length).take ((cM S s).flows.length - S.flows.length) then(20,S.shard,S.shard*4294967296+i)
  else audG fl (i+1) (cM S s) ss:=rfl
def rJ(S:LedM)(s:StM):(cM S s).shard=S.shard:=by unfold cM;split<;>rfl
def qA(S:LedM)(s:StM):(cM S s).cat=S.cat:=by unfold cM;split<;>rfl
def nS(S:LedM)(s:StM):∃z,(cM S s).flows=S.flows++z:=by
 unfold cM;split
 ·exact⟨_,rfl⟩
 ·exact⟨[],(aR _).symm⟩
def yl{sh:Int}(h:0≤sh∧sh<12)(c:CatM):LedA 0 (led0 sh c) where
 g:={
  shard:=h
  steps:=ax _
  flows:=aB _
  stk:=fun _ _=>⟨aB _,(fun _ q=>absurd q aV),List.Pairwise.nil⟩
  tot:=fun _=>⟨by show -(((0:Nat):Int)*1099511627776)≤0;omega,by show(0:Int)≤1099511627776;omega⟩
  fl:=fun _ q=>absurd q aV }
 fa:=fun _ q=>absurd q aV
 fn:=fun _ q=>absurd q (cj _)
 il:=aB _
 rl:=aB _
end
section
open Go.V
attribute [local irreducible] G GO GP GPW GPK Ev Ef EfR Ent CB GB V.Enters
def Ic(n k:Int)(hk:0<k):(if n.tmod k<0 then n.tmod k+k else n.tmod k)=n % k:=by
 have h2:=dC n (ab:k≠0);have h3:=dE n hk;rw[Int.tmod_eq_emod];have h4:(k.natAbs:Int)=k:=ab;by_cases h:0≤n∨k∣n
 ·rw[if_pos h,show n % k - ((0:Nat):Int)=n % k by omega,if_neg ab]
 ·rw[if_neg h,h4,if_pos ab];omega
def EH{L:LH}(n k:Int)(h:I64 n)(hk:0<k)(a3:k≤4611686018427387904):Tri ai 146 #[ac n,ac k] L (rtQ (ac (n % k)) L):=by
 unfold I64 at h;have a0:=Ic n k hk;have a1:=dC n (ab:k≠0);have a2:=dE n hk;rw[←Ic n k hk];refine Tri.bd ?_;by_cases h0:n.tmod k<0
 ·rw[if_pos h0] at a0;rw[if_pos h0];refine JM ?_;intros;exact KX.en ⟨rfl,rfl⟩
 ·rw[if_neg h0];refine JM ?_;intros;exact KX.en ⟨rfl,rfl⟩
def JI(p k:Int):Prop:=0≤p∧(1≤k→p<k)∧(k<1→p=0)
def dF{L:LH}(ad:OA)(n c:Nat)(xs:List Int)[Rds L ad Int (encZ .i64) 1 xs](hn:n=xs.length)(hx:∀x∈xs,I64 x)(i k:Int)(hk:k≤4611686018427387904) :
  Tri ai 99 #[ah ad n c,ac i,ac k] L (fun v L'=>∃p,v=ac p∧JI p k∧L' = L):=by
 subst hn;refine Tri.bd ?_;by_cases h0:0≤i
 case neg =>
  refine JM ?_;intros;exact KX.d7 an (Ent.refl _) ⟨0,rfl,⟨ab,ab,fun _=>rfl⟩,rfl⟩
 by_cases a1:i<xs.length
 case neg =>
  refine JM ?_;intros;exact KX.d7 an (Ent.refl _) ⟨0,rfl,⟨ab,ab,fun _=>rfl⟩,rfl⟩
 by_cases h1:1≤k
 case neg =>
  refine JM ?_;intros;exact KX.d7 an (Ent.refl _) ⟨0,rfl,⟨ab,ab,fun _=>rfl⟩,rfl⟩
 have a0:i.toNat<xs.length:=ab;have g1:=dC xs[i.toNat]! (ab:k≠0);have g2:=dE xs[i.toNat]! (ab:0<k);refine JM ?_;intros;refine GO.cr (EH xs[i.toNat]! k (hx _ (aJ a0)) ab ab) ?_;refine JM ?_;intros;exact KX.d7 an (Ent.refl _) ⟨_,rfl,⟨g1,fun _=>g2,fun q=>absurd q ab⟩,rfl⟩
def pz{L:LH}(n k:Int)(hn:I64 n)(h2:1≤k)(h3:k≤9223372036854775807) :
  Tri ai 9 #[ac n,ac k] L (fun v L'=>∃p,v=ac p∧(0≤p∧p<k)∧L' = L):=by
 obtain⟨h0,h1⟩:=hn;refine Tri.bd ?_;by_cases h:n<0
 ·have g1:=dC (-(n+1)) (ab:k≠0);have g2:=dE (-(n+1)) (ab:0<k);refine JM ?_;intros;exact KX.en ⟨_,rfl,⟨g1,g2⟩,rfl⟩
 ·have g1:=dC n (ab:k≠0);have g2:=dE n (ab:0<k);refine JM ?_;intros;exact KX.en ⟨_,rfl,⟨g1,g2⟩,rfl⟩
def jZ:∀(ms:List MvV) {L:LH},(∀m∈ms,m.m.parts=[])→Ent L (allP mvP ms::L)
 | [],_,_=>Ent.d9 mvP
 | m::ms,L,h=>by
  have h1:mvP m=isl aj 3 m.pad []:=by show isl aj 3 m.pad m.m.parts=_;rw[h m au]
  have h2:Ent (mvP m::allP mvP ms::L) (allP mvP (m::ms)::L):=Ent.g8 (f:=mvP) ix;rw[h1] at h2;exact(jZ ms (fun x hx=>h x (aw _ hx))).trans ((Ent.e8 aj 3 m.pad).trans h2)
structure StG0 (s:StV):Prop where
 inp:StInG s
 cap:s.moves.length≤s.mcap
 form:(s.moves.length≤1∧∀m∈s.moves,m.m.parts.length≤1)∨(s.moves.length≤3∧∀m∈s.moves,m.m.parts=[])
 lots:(∀m∈s.m.moves,m.frm≠m.to)→∀a i,lotsIn a i s.m.moves≤1
def sw:∀{ms:List MvM},(∀m∈ms,m.parts=[])→mvK ms=ms.length
 | [],_=>rfl
 | m::ms,h=>by
  have h1:=sw (ms:=ms) (fun x hx=>h x (aw _ hx));have h2:m.parts.length=0:=by rw[h m au];rfl
  show(m.parts.length+1)+mvK ms=ms.length+1;omega
def StG0.k{s:StV}(h:StG0 s):mvK s.m.moves≤3:=by
 have hl:s.m.moves.length=s.moves.length:=az _;rcases h.form with⟨h1,h2⟩|⟨h1,h2⟩
 ·show mvK (s.moves.map MvV.m)≤3;match hm:s.moves,h1,h2 with
  | [],_,_=>exact ax _
  | [m],_,h2 =>
   have:=h2 m au
   show(m.m.parts.length+1)+0≤3;omega
 ·rw[sw (fun m hm=>by
   obtain⟨u,hu,rfl⟩:=List.mem_map.1 hm;exact h2 u hu),hl]
  exact h1
def Bp{ms:List MvV}(h:∀m∈ms,m.m.parts=[]):(∀m∈ms,m.m.parts.length≤9223372036854775807)∧(∀m∈ms,m.m.parts.length≤m.pcap)∧∀m∈ms,∀p∈m.m.parts,p.1≤9223372036854775807 :=
 ⟨fun m hm=>by rw[h m hm];exact ax _,fun m hm=>by rw[h m hm];exact ax _,fun m hm p hp=>by rw[h m hm] at hp;cases hp⟩
def mvN(f t i n:Int):MvV:=⟨⟨f,t,i,n,[]⟩,none,0⟩
def jv(a0 times:Int)(tk gv:List (Int×Int)):List MvV:=tk.map (fun a=>mvN a0 0 a.1 (a.2*times))++gv.map (fun a=>mvN 0 a0 a.1 (a.2*times))
def rC(a0 times:Int)(tk gv:List (Int×Int)):∀m∈jv a0 times tk gv,m.m.parts=[]:=fun m hm=>by
 rcases List.mem_append.1 hm with h|h
 ·obtain⟨a,_,rfl⟩:=List.mem_map.1 h;rfl
 ·obtain⟨a,_,rfl⟩:=List.mem_map.1 h;rfl
def jw(rule:Int)(a0:Bool):Int:=if a0=true then -2 - rule else rule
def ez(r:RuV)(a0:Bool):AmS:=if a0=true then r.back else r.give
abbrev AL:=aH3 [.ev 13,.ev 14,.ev 15,.ef 16,.ef 17,.ev 18,.ef 19]
abbrev AK:=aH3 [.ev 13,.ev 14,.ev 15,.ef 16,.ef 17,.ev 18,.ef 19]
def fC{φ ψ:Prop}(k:ψ)(h:Hid ψ→φ:=by intro k;(with_reducible apply G.d7);first|refine G.dr 96 10 AL (Hid.out k)|refine G.dr 96 14 AK (Hid.out k)):φ:=h ⟨k⟩
def Zk{φ ψ:Prop}(k:ψ)(h:Hid ψ→φ:=by intro k;(repeat (first|refine aa ?_|intro zzz|refine fC ?_));(repeat revert zzz);exact Hid.out k):φ:=h ⟨k⟩
def so{L:LH}(c:CatV)(hB:c.B)(hc:c.m.Ok)(rule:Int)(hr:0≤rule∧rule<c.rules.length)(a1:Bool)(times a0 tick:Int)(ht:0≤times∧times≤1048576) :
  Tri ai 32 #[aO c.cells,ac rule,.bool a1,ac times,ac a0,ac tick] (catP c::L) (fun v L'=>∃mad mcap,v=aO (aN ⟨0,4,a0,tick,jw rule a1,times,jv a0 times c.rules[rule.toNat]!.take.l (ez c.rules[rule.toNat]! a1).l,mad,mcap⟩) ∧
   (jv a0 times c.rules[rule.toNat]!.take.l (ez c.rules[rule.toNat]! a1).l).length≤mcap∧L' = isl aL 5 mad (jv a0 times c.rules[rule.toNat]!.take.l (ez c.rules[rule.toNat]! a1).l)::catP c::L):=by
 obtain⟨c9,d0⟩:=hr;obtain⟨b0,c3⟩:=ht;have c2:rule.toNat<c.rules.length:=ab;have a2:=aJ c2;have a9:=hB.ru _ a2;have a8:c.rules[rule.toNat]!.m∈c.m.rules:=alStd0List_mem_map_of_mem a2;have b3:=hc.take _ a8;have c1:=hc.give _ a8;have c0:=hc.back _ a8;have d1:=hB.rules;refine Tri.bd ?_;simp only[CatV.cells];refine G.ent (Ent.at (A:=catP c) catOpenR) ?_;refine G.ent (Ent.at (A:=allP ruP c.rules) ((Ent.e7 (f:=ruP) a2).trans ruOpen)) ?_;repeat first|refine G.sm 3 ?_|refine bV ?_|intro _|refine fC ?_
 rename_i b6 a5 a6;refine G.d8 (α:=Unit) (fun _=>True) (fun _=>[(0,aO c.cells),(1,ac rule),(3,ac times),(4,ac a0),(6,ay b6),(12,ay a5),(13,ay a6),(14,ah (ez c.rules[rule.toNat]! a1).ad (ez c.rules[rule.toNat]! a1).l.length (ez c.rules[rule.toNat]! a1).cap)]) (fun _=>obj a6 ba [ac 0,ac 4,ac a0,ac tick,ac (jw rule a1),ac times,ah none 0 0]::obj a5 ba [ac 0,ac 0,ac 0,ac 0,ac 0,ac 0,ah none 0 0]::obj b6 33 [ah c.iad c.items.length c.icap,ah c.rad c.rules.length c.rcap,ah c.tad c.tables.length c.tcap,ah c.xad c.taxes.length c.xcap]::amS (ez c.rules[rule.toNat]! a1)::amS c.rules[rule.toNat]!.take::isl cX 9 c.rad c.rules::catP c::L) ?_ ?_
 ·cases a1 with
  | true =>
   have e1:jw rule true = -2 - rule:=rfl;have e2:ez c.rules[rule.toNat]! true=c.rules[rule.toNat]!.back:=rfl;rw[e1,e2];refine Zk ?_;intros;exact⟨(),trivial,av,by exact ag⟩
  | false =>
   have e1:jw rule false=rule:=rfl;have e2:ez c.rules[rule.toNat]! false=c.rules[rule.toNat]!.give:=rfl;rw[e1,e2];refine Zk ?_;intros;exact⟨(),trivial,av,by exact ag⟩
 rintro _ _;have c5:AmB (ez c.rules[rule.toNat]! a1).l:=by unfold ez;split;exact c0;exact c1
 have c7:(ez c.rules[rule.toNat]! a1).l.length≤64:=by unfold ez;split;exact a9.2.2;exact a9.2.1
 have d2:=a9.1;repeat first|refine G.sm 7 ?_|refine bV ?_|intro _|refine fC ?_
 clear a2 a8 c1 c0 c2 a9;have b3:AmB c.rules[rule.toNat]!.take.l:=b3;generalize ez c.rules[rule.toNat]! a1=gv at *;generalize c.rules[rule.toNat]!.take=tk at *;refine Zk ?_;intros;refine G.loop (α:=Nat×OA×Nat) (fun g=>g.1≤tk.l.length) (fun g=>[(0,aO c.cells),(3,ac times),(4,ac a0),(6,ay b6),(12,ay a5),(13,ay a6),(14,ah gv.ad gv.l.length gv.cap),(15,ah tk.ad tk.l.length tk.cap),(16,ac (g.1:Int))]) (fun g=>osl aL 5 tMv g.2.1 g.2.2 ((tk.l.take g.1).map (fun a=>mvN a0 0 a.1 (a.2*times)))::obj a6 ba [ac 0,ac 4,ac a0,ac tick,ac (jw rule a1),ac times,ah g.2.1 ((tk.l.take g.1).map (fun a=>mvN a0 0 a.1 (a.2*times))).length g.2.2]::obj a5 ba [ac 0,ac 0,ac 0,ac 0,ac 0,ac 0,ah none 0 0]::obj b6 33 [ah c.iad c.items.length c.icap,ah c.rad c.rules.length c.rcap,ah c.tad c.tables.length c.tcap,ah c.xad c.taxes.length c.xcap]::amS gv::amS tk::catP c::L) (fun g=>tk.l.length - g.1) (0,none,0) (ax _) av ?_ ?_
 ·dsimp only;rw[bK,gD];refine(Ent.d8 aL 5 tMv).trans ?_;exact ag
 rintro⟨i,ad,cap⟩ hi;dsimp only at hi ⊢;by_cases a7:i<tk.l.length
 case pos =>
  have b4:(i:Int).toNat=i:=aC i;have a4 : (i:Int).toNat<tk.l.length:=ab;obtain⟨b1,b2⟩:=b3 _ (aJ a4);have b5:0≤tk.l[(i:Int).toNat]!.2*times∧tk.l[(i:Int).toNat]!.2*times≤1099511627776*1048576:=⟨dH b1 b0,fF b2 c3 b0 ab⟩;obtain⟨b7,b8⟩:=b5
  have b9:((tk.l.take (i+1)).map (fun a=>mvN a0 0 a.1 (a.2*times)))=(tk.l.take i).map (fun a=>mvN a0 0 a.1 (a.2*times))++[mvN a0 0 tk.l[(i:Int).toNat]!.1 (tk.l[(i:Int).toNat]!.2*times)]:=by
   rw[aG a7,aW,b4,getElem!_of a7];rfl
  have c6:((tk.l.take i).map (fun a=>mvN a0 0 a.1 (a.2*times))).length≤128:=by
   simp only[aq,az,bg];omega
  generalize hZ:((tk.l.take i).map (fun a=>mvN a0 0 a.1 (a.2*times)))=Z at *;refine Zk ?_;intros;refine GPW.ef (Ef.d7 (enc:=aL) (e:=mvN a0 0 tk.l[(i:Int).toNat]!.1 (tk.l[(i:Int).toNat]!.2*times)) rfl rfl rfl rfl rfl aK (jA _) ab ab) ae ?_;rintro _ _⟨ad2,a3,rfl,rfl⟩;refine Zk ?_;intros;refine⟨(i+1,ad2,a3),by dsimp only;omega,by dsimp only;omega,?_,?_⟩
  ·dsimp only;rw[aY i];exact av
  ·dsimp only;rw[b9];exact ag
 obtain rfl:i=tk.l.length:=ab;rw[bC];have c8:(tk.l.map (fun a=>mvN a0 0 a.1 (a.2*times))).length=tk.l.length:=az _;refine Zk ?_;intros;refine G.loop (α:=Nat×OA×Nat) (fun g=>g.1≤gv.l.length) (fun g=>[(0,aO c.cells),(3,ac times),(4,ac a0),(6,ay b6),(12,ay a5),(13,ay a6),(14,ah gv.ad gv.l.length gv.cap),(17,ac (g.1:Int))]) (fun g=>osl aL 5 tMv g.2.1 g.2.2 (tk.l.map (fun a=>mvN a0 0 a.1 (a.2*times))++(gv.l.take g.1).map (fun a=>mvN 0 a0 a.1 (a.2*times)))::obj a6 ba [ac 0,ac 4,ac a0,ac tick,ac (jw rule a1),ac times,ah g.2.1 (tk.l.map (fun a=>mvN a0 0 a.1 (a.2*times))++(gv.l.take g.1).map (fun a=>mvN 0 a0 a.1 (a.2*times))).length g.2.2]::obj a5 ba [ac 0,ac 0,ac 0,ac 0,ac 0,ac 0,ah none 0 0]::obj b6 33 [ah c.iad c.items.length c.icap,ah c.rad c.rules.length c.rcap,ah c.tad c.tables.length c.tcap,ah c.xad c.taxes.length c.xcap]::amS gv::amS tk::catP c::L) (fun g=>gv.l.length - g.1) (0,ad,cap) (ax _) ?_ ?_ ?_
 ·exact av
 ·dsimp only;rw[bK,gD,aR];exact ag
 clear ad cap;rintro⟨i,ad,cap⟩ hi;dsimp only at hi ⊢;by_cases a7:i<gv.l.length
 case pos =>
  have b4:(i:Int).toNat=i:=aC i;have a4 : (i:Int).toNat<gv.l.length:=ab;obtain⟨b1,b2⟩:=c5 _ (aJ a4);have b5:0≤gv.l[(i:Int).toNat]!.2*times∧gv.l[(i:Int).toNat]!.2*times≤1099511627776*1048576:=⟨dH b1 b0,fF b2 c3 b0 ab⟩;obtain⟨b7,b8⟩:=b5
  have b9:(tk.l.map (fun a=>mvN a0 0 a.1 (a.2*times))++(gv.l.take (i+1)).map (fun a=>mvN 0 a0 a.1 (a.2*times)))=tk.l.map (fun a=>mvN a0 0 a.1 (a.2*times))++(gv.l.take i).map (fun a=>mvN 0 a0 a.1 (a.2*times))++[mvN 0 a0 gv.l[(i:Int).toNat]!.1 (gv.l[(i:Int).toNat]!.2*times)]:=by
   rw[aG a7,aW,b4,getElem!_of a7,aF];rfl
  have c6:(tk.l.map (fun a=>mvN a0 0 a.1 (a.2*times))++(gv.l.take i).map (fun a=>mvN 0 a0 a.1 (a.2*times))).length≤128:=by
   simp only[aq,az,bg];omega
  generalize hZ:(tk.l.map (fun a=>mvN a0 0 a.1 (a.2*times))++(gv.l.take i).map (fun a=>mvN 0 a0 a.1 (a.2*times)))=Z at *;refine Zk ?_;intros;refine GPW.ef (Ef.d7 (enc:=aL) (e:=mvN 0 a0 gv.l[(i:Int).toNat]!.1 (gv.l[(i:Int).toNat]!.2*times)) rfl rfl rfl rfl rfl aK (jA _) ab ab) ae ?_;rintro _ _⟨ad2,a3,rfl,rfl⟩;refine Zk ?_;intros;refine⟨(i+1,ad2,a3),by dsimp only;omega,by dsimp only;omega,?_,?_⟩
  ·dsimp only;rw[aY i];exact av
  ·dsimp only;rw[b9];exact ag
 obtain rfl:i=gv.l.length:=ab;rw[bC];rw[show tk.l.map (fun a=>mvN a0 0 a.1 (a.2*times))++gv.l.map (fun a=>mvN 0 a0 a.1 (a.2*times))=jv a0 times tk.l gv.l from rfl];generalize jv a0 times tk.l gv.l=Z;refine G.f8 (gA (ad:=ad) (cap:=cap) (xs:=Z) (enc:=aL) (sz:=5) (E:=tMv)) ?_;rintro⟨c4,_⟩;refine Zk ?_;intros;exact KX.d7 (by exact ResOk.cell rfl aK (ResOk.nil)) ((Ent.frz ad).trans ag) ⟨ad,cap,rfl,c4,rfl⟩
end
end Go.Proofs.YtommnllbflbdmaaGreatDoor
namespace Go.V
section tri
variable {P:Program}{f:FuncId}{args:Array Value}{L:LH}{post post' : Value→LH→Prop}
def Tri.e9{α:Type}{g:α→LH}(he:Enters P f)(h:∀x,Tri P f args (g x++L) post):Tri P f args (hex (fun x=>cS (g x))::L) post :=
 ⟨he,fun θ R w s=>by
  obtain⟨x,s1⟩:=Sat.ofHex (show Sat θ (hex (fun x=>cS (g x))::(L++R)) w from s);exact(h x).calls θ R w (by rw[aF];exact s1.ofStars)⟩
def Tri.e8{φ:Prop}(he:Enters P f)(h:φ→Tri P f args L post):Tri P f args (dA φ::L) post :=
 ⟨he,fun θ R w s=>(h (Sat.ofPure (show Sat θ (dA φ::(L++R)) w from s))).calls θ R w s.tail⟩
def Tri.conseq(h:Tri P f args L post)(hp:∀v L',post v L'→∃L'',post' v L''∧Ent L' L''):Tri P f args L post' :=
 ⟨h.enters,fun θ R w s=>(h.calls θ R w s).mono fun _ _ ⟨v,L',a,b,c⟩=>by
  obtain⟨L'',h1,h2⟩:=hp _ _ b;exact⟨v,L'',a,h1,h2 θ R _ c⟩⟩
def Tri.f8{φ:Prop}(he:Enters P f)(hφ:∀θ R w,Sat θ (L++R) w→φ)(h:φ→Tri P f args L post):Tri P f args L post :=
 ⟨he,fun θ R w s=>(h (hφ θ R w s)).calls θ R w s⟩
end tri
end Go.V
namespace Go.Proofs.YtommnllbflbdmaaGreatDoor
section
open Go.V
def mb{s:StV}(h3:s.moves.length≤3)(hp:∀m∈s.moves,m.m.parts=[])(hc:s.moves.length≤s.mcap)(hr:I64 s.rule)(hl:(∀m∈s.m.moves,m.frm≠m.to)→∀a i,lotsIn a i s.m.moves≤1):StG0 s:=by
 obtain⟨p1,p2,p3⟩:=Bp hp;exact⟨⟨ab,hr,p1,p2,p3⟩,hc,.inr ⟨h3,hp⟩,hl⟩
def lG{m:MvM}(hp:m.parts.length≤1)(a0:m.frm≠m.to)(a i:Int):lotsIn a i [m]≤1:=by
 show((if m.to=a∧m.item=i then 1 else 0)+(if m.frm=a∧m.item=i then m.parts.length else 0))+0≤1;split
 ·rename_i h1;rw[if_neg (fun q=>a0 (q.1.trans h1.1.symm))];omega
 ·split<;>omega
def yh{m n:MvM}(h1:m.parts=[])(h2:n.parts=[])(hi:m.item≠n.item)(a i:Int):lotsIn a i [m,n]≤1:=by
 have e:lotsIn a i [m,n]=((if m.to=a∧m.item=i then 1 else 0)+(if m.frm=a∧m.item=i then m.parts.length else 0))+(((if n.to=a∧n.item=i then 1 else 0)+(if n.frm=a∧n.item=i then n.parts.length else 0))+0):=rfl;rw[e,h1,h2];have g:∀(c:Prop) [Decidable c],(if c then([]:LL).length else 0)=0:=fun c _=>by split<;>rfl
 rw[g,g];by_cases c1:m.to=a∧m.item=i
 ·rw[if_pos c1,if_neg (fun q=>hi (c1.2.trans q.2.symm))];omega
 ·rw[if_neg c1];split<;>omega
def FC{a0 times i1 i2 i3 n1 n2 n3:Int}(h:i1≠i2)(h0:a0≠0)(a i:Int):lotsIn a i ((jv a0 times [(i1,n1),(i2,n2)] [(i3,n3)]).map MvV.m)≤1:=by
 have e:lotsIn a i ((jv a0 times [(i1,n1),(i2,n2)] [(i3,n3)]).map MvV.m)=((if(0:Int)=a∧i1=i then 1 else 0)+(if a0=a∧i1=i then 0 else 0))+(((if(0:Int)=a∧i2=i then 1 else 0)+(if a0=a∧i2=i then 0 else 0))+(((if a0=a∧i3=i then 1 else 0)+(if(0:Int)=a∧i3=i then 0 else 0))+0)):=rfl;rw[e];have g:∀(c:Prop) [Decidable c],(if c then 0 else 0)=(0:Nat):=fun c _=>by split<;>rfl
 rw[g,g,g];by_cases c1:(0:Int)=a
 ·by_cases c2:i1=i
  ·rw[if_pos ⟨c1,c2⟩,if_neg (fun q=>h (c2.trans q.2.symm)),if_neg (fun q=>h0 (q.1.trans c1.symm))];omega
  ·rw[if_neg (fun q=>c2 q.2),if_neg (show ¬(a0=a∧i3=i) from fun q=>h0 (q.1.trans c1.symm))];split<;>omega
 ·rw[if_neg (fun q=>c1 q.1),if_neg (fun q=>c1 q.1)];split<;>omega
def DU{a0 times i1 i3 n1 n3:Int}(h0:a0≠0)(a i:Int):lotsIn a i ((jv a0 times [(i1,n1)] [(i3,n3)]).map MvV.m)≤1:=by
 have e:lotsIn a i ((jv a0 times [(i1,n1)] [(i3,n3)]).map MvV.m)=((if(0:Int)=a∧i1=i then 1 else 0)+(if a0=a∧i1=i then 0 else 0))+(((if a0=a∧i3=i then 1 else 0)+(if(0:Int)=a∧i3=i then 0 else 0))+0):=rfl;rw[e];have g:∀(c:Prop) [Decidable c],(if c then 0 else 0)=(0:Nat):=fun c _=>by split<;>rfl
 rw[g,g];by_cases c1:(0:Int)=a
 ·rw[if_neg (show ¬(a0=a∧i3=i) from fun q=>h0 (q.1.trans c1.symm))];split<;>omega
 ·rw[if_neg (fun q=>c1 q.1)];split<;>omega
def Jb{c:CatV}(hc:c.m=cat16){r:Int}(hr:1≤r∧r≤4){a0:Bool}(hf:a0=true→r=1){a1 tick times:Int}(h0:a1≠0){mad:OA}{mcap:Nat}(hl:(jv a1 times c.rules[r.toNat]!.take.l (ez c.rules[r.toNat]! a0).l).length≤mcap) :
  StG0 ⟨0,4,a1,tick,jw r a0,times,jv a1 times c.rules[r.toNat]!.take.l (ez c.rules[r.toNat]! a0).l,mad,mcap⟩:=by
 have a7:c.rules.length=5:=by
  have:c.m.rules.length=c.rules.length:=by simp[CatV.m]
  rw[hc] at this;exact this.symm
 have hm:∀k,k<5→c.rules[k]!.m=cat16.rules[k]!:=fun k hk=>by
  rw[←hc];exact(dI RuV.m ab).symm
 have hI:I64 (jw r a0):=by unfold I64 jw;split<;>omega
 have a3:∀k,k<5→c.rules[k]!.take.l=(cat16.rules[k]!).take:=fun k hk=>congrArg RuM.take (hm k hk);have a6:∀k,k<5→c.rules[k]!.give.l=(cat16.rules[k]!).give:=fun k hk=>congrArg RuM.give (hm k hk);have a5:∀k,k<5→c.rules[k]!.back.l=(cat16.rules[k]!).back:=fun k hk=>congrArg RuM.back (hm k hk)
 have a2:(c.rules[r.toNat]!.take.l=[(1,2),(2,1)]∧∃y,(ez c.rules[r.toNat]! a0).l=[y])∨(∃x y,c.rules[r.toNat]!.take.l=[x]∧(ez c.rules[r.toNat]! a0).l=[y]):=by
  have hg:∀k,k<5→a0=false→(ez c.rules[k]! a0).l=(cat16.rules[k]!).give:=fun k hk e=>by
   unfold ez;rw[if_neg (by rw[e];decide)];exact a6 k hk
  rcases (by omega:r=1∨r=2∨r=3∨r=4) with rfl|rfl|rfl|rfl
  ·refine .inl ⟨a3 1 ab,?_⟩;cases a0 with
   | false=>exact⟨_,hg 1 ab rfl⟩
   | true=>exact⟨_,a5 1 ab⟩
  all_goals
   have a4:a0=false:=by
    cases a0 with
    | false=>rfl
    | true=>exact absurd (hf rfl) ae
  ·exact .inr ⟨_,_,a3 2 ab,hg 2 ab a4⟩
  ·exact .inr ⟨_,_,a3 3 ab,hg 3 ab a4⟩
  ·exact .inr ⟨_,_,a3 4 ab,hg 4 ab a4⟩
 have hg:(jv a1 times c.rules[r.toNat]!.take.l (ez c.rules[r.toNat]! a0).l).length≤3∧∀a i,lotsIn a i ((jv a1 times c.rules[r.toNat]!.take.l (ez c.rules[r.toNat]! a0).l).map MvV.m)≤1:=by
  rcases a2 with⟨e1,⟨y1,y2⟩,e2⟩|⟨⟨x1,x2⟩,⟨y1,y2⟩,e1,e2⟩
  ·rw[e1,e2];exact⟨aB _,fun a i=>FC ae h0 a i⟩
  ·rw[e1,e2];exact⟨bP 2,fun a i=>DU h0 a i⟩
 exact mb hg.1 (rC _ _ _ _) hl hI (fun _ a i=>hg.2 a i)
def rD{L:LH}(c:CatV)(hc:c.m=cat16)(hB:c.B)(r:Int)(hr:1≤r∧r≤4)(a0:Bool)(hf:a0=true→r=1)(times a1 tick:Int)(h0:a1≠0)(ht:0≤times∧times≤1048576) :
  Tri ai 32 #[aO c.cells,ac r,.bool a0,ac times,ac a1,ac tick] (catP c::L) (fun v L'=>∃s:StV,v=aO (aN s)∧StG0 s∧L' = stM s::stP s::catP c::L):=by
 have a2:c.rules.length=5:=by
  have:c.m.rules.length=c.rules.length:=by simp[CatV.m]
  rw[hc] at this;exact this.symm
 refine(so c hB (hc▸sO) r ⟨ab,ab⟩ a0 times a1 tick ht).conseq ?_;rintro v _ ⟨mad,mcap,rfl,hl,rfl⟩;refine⟨_,⟨_,rfl,Jb hc hr hf h0 hl,rfl⟩,?_⟩;exact(jZ (jv a1 times c.rules[r.toNat]!.take.l (ez c.rules[r.toNat]! a0).l) (rC _ _ _ _)).trans Ent.swap
def rA:∀{l:List RStk},ki l→∀s∈l,dR l s.acc s.item=s.stk
 | [],_,_,h=>by cases h
 | u::l,hd,s,h=>by
  unfold ki at hd;rw[bL,dX] at hd;unfold dR;rcases List.mem_cons.1 h with e|h
  ·rw[e,if_pos (show u.acc=u.acc∧u.item=u.item from⟨rfl,rfl⟩)]
  ·rw[if_neg (fun q=>hd.1 (by
    have h1:(s.acc,s.item)∈l.map (fun s=>(s.acc,s.item)):=alStd0List_mem_map_of_mem h;rw[show u.acc=s.acc from q.1,show u.item=s.item from q.2];exact h1))]
   exact rA (l:=l) hd.2 s h
inductive LRep (sh:Int) (c:CatM):LedM→Prop
 | zero:LRep sh c (led0 sh c)
 | post {S:LedM} {s:StM}:LRep sh c S→(gTry S s).1=0→LRep sh c (cM S s)
def kX{S:LedM}{s:StM}(h:(gTry S s).1=0):fL S.cat S.now s:=by
 unfold gTry at h;by_cases h1:65536≤S.steps.length
 ·rw[if_pos h1] at h;exact absurd (show(4:Int)=0 from h) ae
 ·rw[if_neg h1] at h;by_cases h2:fL S.cat S.now s
  ·exact h2
  ·rw[if_pos h2] at h;exact absurd (show(1:Int)=0 from h) ae
def StG0.at{s:StV}(h:StG0 s)(id:Int):StG0 (s.at id):=⟨⟨h.inp.len,h.inp.rule,h.inp.parts,h.inp.cap,h.inp.bd⟩,h.cap,h.form,h.lots⟩
def ti:∀{l:List StV},(∀s∈l,StG0 s)→(stK (l.map StV.m))≤3*l.length
 | [],_=>aB _
 | s::l,h=>by
  have h1:=ti (l:=l) (fun u hu=>h u (aw _ hu));have h2:=(h s au).k;show mvK s.m.moves+stK (l.map StV.m)≤3*(l.length+1);omega
structure GenR (sh:Int) (i:Nat) (S:LedM) (x:RLX):Prop where
 rf:RF S x
 led:∃k,k≤3*i∧LedA k S
 cat:S.cat=cat16
 shard:S.shard=sh
 steps:S.steps.length≤i
 st:∀s∈x.steps,StG0 s
 ne:∀s∈x.steps,∀m∈s.m.moves,m.frm≠m.to
 rep:LRep sh cat16 S
 cap:lx x.flows
def GenR.post{sh:Int}{i:Nat}{S:LedM}{x x' : RLX}{s:StV}(h:GenR sh i S x)(hi:3*i+3≤2000)(hs:StG0 s)(hF:RF (cM S s.m) x')(h0:(gTry S s.m).1=0→x'.steps=x.steps++[s.at (aP S)])(h1:(gTry S s.m).1≠0→x'.steps=x.steps)(h2:lx x.flows→lx x'.flows):GenR sh (i+1) (cM S s.m) x':=by
 obtain⟨k,hk,hl⟩:=h.led;have hm:=hs.k;have a1:=h.steps;have a0:=(uM (s:=s.m) hl ab).1;have hc:(cM S s.m).cat=cat16:=(qA S s.m).trans h.cat;have hd:(cM S s.m).shard=sh:=(rJ S s.m).trans h.shard;by_cases e:(gTry S s.m).1=0
 ·have e1:cM S s.m=gt S s.m:=if_pos e;refine⟨hF,⟨_,ab,a0⟩,hc,hd,?_,fun u hu=>?_,fun u hu=>?_,.post h.rep e,h2 h.cap⟩
  ·rw[e1];show(S.steps++[_]).length≤i+1;rw[aq,aM];omega
  ·rw[h0 e] at hu;rcases List.mem_append.1 hu with hu|hu
   ·exact h.st u hu
   ·rw[List.mem_singleton.1 hu];exact hs.at _
  ·rw[h0 e] at hu;rcases List.mem_append.1 hu with hu|hu
   ·exact h.ne u hu
   ·rw[List.mem_singleton.1 hu];intro m hm;have hp:=possG_A.1 (kX e);exact(hp.2.2.2.2.1 m hm).2.2.2.2.1
 ·have e1:cM S s.m=S:=if_neg e;rw[e1] at hF ⊢;refine⟨hF,⟨k,ab,hl⟩,h.cat,h.shard,ab,fun u hu=>?_,fun u hu=>?_,h.rep,h2 h.cap⟩
  ·rw[h1 e] at hu;exact h.st u hu
  ·rw[h1 e] at hu;exact h.ne u hu
structure GenB (x:RLX):Prop where
 ok:rOk x.stks
 stks:x.stks.length≤100000
 steps:x.steps.length≤100000
 flows:x.flows.length≤10000000
 fl:∀f∈x.flows,(1≤f.m.n∧f.m.n≤1099511627776)∧f.m.id≤9000000000000000000
 lots:∀s∈x.stks,∀l∈s.stk.lots,l.1≤9000000000000000000
def GenR.lens{sh:Int}{i:Nat}{S:LedM}{x:RLX}(h:GenR sh i S x):x.steps.length=S.steps.length∧x.flows.length=S.flows.length∧S.flows.length≤64*S.steps.length∧x.stks.length≤2*x.flows.length:=by
 obtain⟨k,hk,hl⟩:=h.led;refine⟨?_,?_,hl.g.flows,h.rf.len⟩
 ·rw[←h.rf.steps,az]
 ·rw[←h.rf.flows,az]
def GenR.bnd{sh:Int}{i:Nat}{S:LedM}{x:RLX}(h:GenR sh i S x)(hi:i≤100):GenB x:=by
 obtain⟨k,hk,hl⟩:=h.led;obtain⟨e1,e2,e3,e4⟩:=h.lens;have e5:=h.steps;obtain⟨s1,s2⟩:=hl.g.shard;refine⟨h.rf.ok,ab,ab,ab,fun f hf=>?_,fun s hs l a1=>?_⟩
 ·obtain⟨j,hj,rfl⟩:=List.mem_iff_getElem.1 hf;have a0:j<S.flows.length:=ab
  have e:S.flows[j]! = (x.flows[j]).m:=by
   rw[getElem!_of a0];simp only[←h.rf.flows,cK]
  have hn:=hl.fn j a0;rw[e] at hn;refine⟨hn.2,?_⟩;rw[hn.1];omega
 ·have h1:=(hl.g.stk s.acc s.item).ok l (by rw[←h.rf.lots,rA h.rf.dist s hs];exact a1);have:=h1.2
  omega
def zd{α:Type}(f:α→HP)(l:List α):allP f l=allP (fun x:HP=>x) (l.map f):=by
 unfold allP;funext i w;refine propext ⟨fun h x hx=>?_,fun h x hx=>h _ (alStd0List_mem_map_of_mem hx)⟩;obtain⟨y,hy,rfl⟩:=List.mem_map.1 hx;exact h y hy
def Ent.l7{α:Type}{f:α→HP}{l l' : List α}(h:∀y∈l',∃x∈l,f y=f x){L:LH}:Ent (allP f l::L) (allP f l'::L):=by
 rw[zd f l,zd f l'];refine Ent.j0 (f:=fun x:HP=>x) fun x hx=>?_;obtain⟨y,hy,rfl⟩:=List.mem_map.1 hx;obtain⟨z,hz,e⟩:=h y hy;rw[e];exact alStd0List_mem_map_of_mem hz
structure StSp (s:StV):Prop where
 inp:StInG s
 cap:s.moves.length≤s.mcap
 k:mvK s.m.moves≤4
def BU:∀ms:List MvM,ms.length≤mvK ms
 | []=>aB _
 | m::ms=>by
  have:=BU ms
  show ms.length+1≤(m.parts.length+1)+mvK ms;omega
def StSp.len{s:StV}(h:StSp s):s.moves.length≤4:=by
 have h1:=BU s.m.moves;have h2:=h.k;have h3:s.m.moves.length=s.moves.length:=az _;omega
def StG0.sp{s:StV}(h:StG0 s):StSp s:=⟨h.inp,h.cap,by have:=h.k;omega⟩
structure MvSp (ms ms' : List MvV):Prop where
 img:∀y∈ms',∃x∈ms,y.pad=x.pad∧y.m.parts=x.m.parts∧y.pcap=x.pcap
def MvSp.ent{ms a0 : List MvV}(h:MvSp ms a0){L:LH}:Ent (allP mvP ms::L) (allP mvP a0::L) :=
 Ent.l7 fun y hy=>by
  obtain⟨x,hx,e1,e2,_⟩:=h.img y hy;exact⟨x,hx,by show isl aj 3 y.pad y.m.parts=isl aj 3 x.pad x.m.parts;rw[e1,e2]⟩
def MvSp.inp{s s' : StV}(h:MvSp s.moves s'.moves)(hs:StInG s)(hl:s'.moves.length≤4)(hr:I64 s'.rule):StInG s':=by
 refine⟨ab,hr,fun m hm=>?_,fun m hm=>?_,fun m hm=>?_⟩
 ·obtain⟨x,hx,e1,e2,e3⟩:=h.img m hm;rw[e2];exact hs.parts x hx
 ·obtain⟨x,hx,e1,e2,e3⟩:=h.img m hm;rw[e2,e3];exact hs.cap x hx
 ·obtain⟨x,hx,e1,e2,e3⟩:=h.img m hm;rw[e2];exact hs.bd x hx
def StG0.k0{s:StV}(h:StG0 s)(h0:0<s.moves.length):mvK (s.moves.map MvV.m)+(s.moves[0]!.m.parts.length+1)≤4:=by
 have hl:s.m.moves.length=s.moves.length:=az _;rcases h.form with⟨h1,h2⟩|⟨h1,h2⟩
 ·match hm:s.moves,h1,h2,h0 with
  | [m],_,h2,_ =>
   have:=h2 m au
   show((m.m.parts.length+1)+0)+(m.m.parts.length+1)≤4;omega
 ·have h3:=h2 _ (aJ h0)
  rw[h3,sw (fun m hm=>by
   obtain⟨u,hu,rfl⟩:=List.mem_map.1 hm;exact h2 u hu),az]
  show s.moves.length+(0+1)≤4;omega
