/- Lemmas. -/
import Derived.Test.YtommnllbflbdmaaGreatDoorLbp
set_option linter.all false
set_option maxHeartbeats 8000000
namespace Go.Proofs.YtommnllbflbdmaaGreatDoor
section
open Go.V
def stK:List StM→Nat
 | []=>0
 | s::ss=>mvK s.moves+stK ss
def stL(a i:Int):List StM→Nat
 | []=>0
 | s::ss=>lotsIn a i s.moves+stL a i ss
theorem rG:∀x y:List StM,stK (x++y)=stK x+stK y
 | [],y=>by show stK y=0+stK y;omega
 | s::x,y=>by
  have:=rG x y
  show mvK s.moves+stK (x++y)=mvK s.moves+stK x+stK y;omega
theorem vq{l:List StM}{i:Nat}(h:i<l.length):stK (l.take (i+1))=stK (l.take i)+mvK l[i]!.moves:=by
 rw[aC h,rG,getElem!_of h];rfl
noncomputable def audG(flows:List FlM):Nat→LedM→List StM→Fd
 | i,S,[]=>if S.flows.length<flows.length then(20,S.shard,S.shard*4294967296+i) else(0,0,0)
 | i,S,s::ss =>
  if s.id≠S.shard*4294967296+i then(1,S.shard,S.shard*4294967296+i)
  else if(gTry S s).1≠0 then((gTry S s).1,S.shard,S.shard*4294967296+i)
  else if flows.length<(cT S s).flows.length∨(cT S s).flows.drop S.flows.length≠(flows.drop S.flows.length).take ((cT S s).flows.length - S.flows.length) then(20,S.shard,S.shard*4294967296+i)
  else audG flows (i+1) (cT S s) ss
noncomputable def audF(sh:Int)(c:CatM)(ss:List StM)(flows:List FlM):Fd:=if 0≤sh∧sh<12 then audG flows 0 (led0 sh c) ss else(1,sh,0)
theorem rk{fl:List FlM}{i:Nat}{S:LedM}:audG fl i S []=if S.flows.length<fl.length then(20,S.shard,S.shard*4294967296+i) else(0,0,0):=rfl
theorem ku{fl:List FlM}{i:Nat}{S:LedM}{s:StM}{ss:List StM}:audG fl i S (s::ss) =
  if s.id≠S.shard*4294967296+i then(1,S.shard,S.shard*4294967296+i)
  else if(gTry S s).1≠0 then((gTry S s).1,S.shard,S.shard*4294967296+i)
  else if fl.length<(cT S s).flows.length∨(cT S s).flows.drop S.flows.length≠(fl.drop S.flows.length).take ((cT S s).flows.length - S.flows.length) then(20,S.shard,S.shard*4294967296+i)
  else audG fl (i+1) (cT S s) ss:=rfl
theorem mT(S:LedM)(s:StM):(cT S s).shard=S.shard:=by unfold cT;split<;>rfl
theorem pb(S:LedM)(s:StM):(cT S s).cat=S.cat:=by unfold cT;split<;>rfl
theorem qq(S:LedM)(s:StM):∃z,(cT S s).flows=S.flows++z:=by
 unfold cT;split
 ·exact⟨_,rfl⟩
 ·exact⟨[],(ba _).symm⟩
theorem wm{sh:Int}(h:0≤sh∧sh<12)(c:CatM):LedA 0 (led0 sh c) where
 g:={
  shard:=h
  steps:=ao _
  flows:=aB _
  stk:=fun _ _=>⟨aB _,(fun _ q=>absurd q aT),List.Pairwise.nil⟩
  tot:=fun _=>⟨by show -(((0:Nat):Int)*1099511627776)≤0;omega,by show(0:Int)≤1099511627776;omega⟩
  fl:=fun _ q=>absurd q aT }
 fa:=fun _ q=>absurd q aT
 fn:=fun _ q=>absurd q (cd _)
 il:=aB _
 rl:=aB _
end
section
open Go.V
attribute [local irreducible] G GO GP GPW GPK Ev Ef EfR Ent CB GB V.Enters
theorem Fj(n k:Int)(hk:0<k):(if n.tmod k<0 then n.tmod k+k else n.tmod k)=n % k:=by
 have h2:=dg n (show k≠0 by omega);have h3:=dw n hk;rw[Int.tmod_eq_emod];have h4:(k.natAbs:Int)=k:=ac;by_cases h:0≤n∨k∣n
 ·rw[if_pos h,show n % k - ((0:Nat):Int)=n % k by omega,if_neg ac]
 ·rw[if_neg h,h4,if_pos ac];omega
theorem BU{L:LH}(n k:Int)(h:I64 n)(hk:0<k)(hk2:k≤4611686018427387904):Tri ah 146 #[ab n,ab k] L (fun v L'=>v=ab (n % k)∧L' = L):=by
 unfold I64 at h;have hb1:=Fj n k hk;have hb2:=dg n (show k≠0 by omega);have hb3:=dw n hk;rw[←Fj n k hk];refine Tri.body (args:=[ab n,ab k]) 15 JC Tryz.func146 rfl rfl rfl (by simp) ?_;by_cases h0:n.tmod k<0
 ·rw[if_pos h0] at hb1;rw[if_pos h0];repeat first|refine aa ?_|intro
  exact KX.d7 ai (Ent.refl _) ⟨rfl,rfl⟩
 ·rw[if_neg h0];repeat first|refine aa ?_|intro
  exact KX.d7 ai (Ent.refl _) ⟨rfl,rfl⟩
def Kp(p k:Int):Prop:=0≤p∧(1≤k→p<k)∧(k<1→p=0)
theorem dp{L:LH}(ad:OA)(n c:Nat)(xs:List Int)[Rds L ad Int (encZ .i64) 1 xs](hn:n=xs.length)(hx:∀x∈xs,I64 x)(i k:Int)(hk:k≤4611686018427387904) :
  Tri ah 99 #[.slice ad n c,ab i,ab k] L (fun v L'=>∃p,v=ab p∧Kp p k∧L' = L):=by
 subst hn;refine Tri.body (args:=[.slice ad xs.length c,ab i,ab k]) 25 en99 Tryz.func99 rfl rfl rfl (by simp) ?_;by_cases h0:0≤i
 case neg =>
  repeat first|refine aa ?_|intro
  exact KX.d7 ai (Ent.refl _) ⟨0,rfl,⟨ac,ac,fun _=>rfl⟩,rfl⟩
 by_cases hlt:i<xs.length
 case neg =>
  repeat first|refine aa ?_|intro
  exact KX.d7 ai (Ent.refl _) ⟨0,rfl,⟨ac,ac,fun _=>rfl⟩,rfl⟩
 by_cases h1:1≤k
 case neg =>
  repeat first|refine aa ?_|intro
  exact KX.d7 ai (Ent.refl _) ⟨0,rfl,⟨ac,ac,fun _=>rfl⟩,rfl⟩
 have hin:i.toNat<xs.length:=ac;have g1:=dg xs[i.toNat]! (show k≠0 by omega);have g2:=dw xs[i.toNat]! (show 0<k by omega);repeat first|refine aa ?_|intro
 refine GO.ef (Ef.d7 (BU xs[i.toNat]! k (hx _ (aI hin)) ac ac) rfl) ae ?_;rintro _ _⟨rfl,rfl⟩;repeat first|refine aa ?_|intro
 exact KX.d7 ai (Ent.refl _) ⟨_,rfl,⟨g1,fun _=>g2,fun q=>absurd q ac⟩,rfl⟩
theorem lN{L:LH}(n k:Int)(hn:I64 n)(h2:1≤k)(h3:k≤9223372036854775807) :
  Tri ah 9 #[ab n,ab k] L (fun v L'=>∃p,v=ab p∧(0≤p∧p<k)∧L' = L):=by
 obtain⟨h0,h1⟩:=hn;refine Tri.body (args:=[ab n,ab k]) 13 en9 Tryz.func9 rfl rfl rfl (by simp) ?_;by_cases h:n<0
 ·have g1:=dg (-(n+1)) (show k≠0 by omega);have g2:=dw (-(n+1)) (show 0<k by omega);repeat first|refine aa ?_|intro
  exact KX.d7 ai (Ent.refl _) ⟨_,rfl,⟨g1,g2⟩,rfl⟩
 ·have g1:=dg n (show k≠0 by omega);have g2:=dw n (show 0<k by omega);repeat first|refine aa ?_|intro
  exact KX.d7 ai (Ent.refl _) ⟨_,rfl,⟨g1,g2⟩,rfl⟩
theorem jt:∀(ms:List MvV) {L:LH},(∀m∈ms,m.m.parts=[])→Ent L (allP mvP ms::L)
 | [],_,_=>Ent.e7 mvP
 | m::ms,L,h=>by
  have h1:mvP m=isl an 3 m.pad []:=by show isl an 3 m.pad m.m.parts=_;rw[h m aw]
  have h2:Ent (mvP m::allP mvP ms::L) (allP mvP (m::ms)::L):=Ent.f8 (f:=mvP) iA;rw[h1] at h2;exact(jt ms (fun x hx=>h x (av _ hx))).trans ((Ent.e9 an 3 m.pad).trans h2)
structure StG0 (s:StV):Prop where
 inp:StInG s
 cap:s.moves.length≤s.mcap
 form:(s.moves.length≤1∧∀m∈s.moves,m.m.parts.length≤1)∨(s.moves.length≤3∧∀m∈s.moves,m.m.parts=[])
 lots:(∀m∈s.m.moves,m.frm≠m.to)→∀a i,lotsIn a i s.m.moves≤1
theorem qO:∀{ms:List MvM},(∀m∈ms,m.parts=[])→mvK ms=ms.length
 | [],_=>rfl
 | m::ms,h=>by
  have h1:=qO (ms:=ms) (fun x hx=>h x (av _ hx));have h2:m.parts.length=0:=by rw[h m aw];rfl
  show(m.parts.length+1)+mvK ms=ms.length+1;omega
theorem StG0.k{s:StV}(h:StG0 s):mvK s.m.moves≤3:=by
 have hl:s.m.moves.length=s.moves.length:=aG _;rcases h.form with⟨h1,h2⟩|⟨h1,h2⟩
 ·show mvK (s.moves.map MvV.m)≤3;match hm:s.moves,h1,h2 with
  | [],_,_=>exact ao _
  | [m],_,h2 =>
   have:=h2 m aw
   show(m.m.parts.length+1)+0≤3;omega
 ·rw[qO (fun m hm=>by
   obtain⟨u,hu,rfl⟩:=List.mem_map.1 hm;exact h2 u hu),hl]
  exact h1
theorem yY{ms:List MvV}(h:∀m∈ms,m.m.parts=[]):(∀m∈ms,m.m.parts.length≤9223372036854775807)∧(∀m∈ms,m.m.parts.length≤m.pcap)∧∀m∈ms,∀p∈m.m.parts,p.1≤9223372036854775807 :=
 ⟨fun m hm=>by rw[h m hm];exact ao _,fun m hm=>by rw[h m hm];exact ao _,fun m hm p hp=>by rw[h m hm] at hp;cases hp⟩
def mvN(f t i n:Int):MvV:=⟨⟨f,t,i,n,[]⟩,none,0⟩
def iY(acct times:Int)(tk gv:List (Int×Int)):List MvV:=tk.map (fun a=>mvN acct 0 a.1 (a.2*times))++gv.map (fun a=>mvN 0 acct a.1 (a.2*times))
theorem qi(acct times:Int)(tk gv:List (Int×Int)):∀m∈iY acct times tk gv,m.m.parts=[]:=fun m hm=>by
 rcases List.mem_append.1 hm with h|h
 ·obtain⟨a,_,rfl⟩:=List.mem_map.1 h;rfl
 ·obtain⟨a,_,rfl⟩:=List.mem_map.1 h;rfl
def iZ(rule:Int)(failed:Bool):Int:=if failed=true then -2 - rule else rule
def dR(r:RuV)(failed:Bool):AmS:=if failed=true then r.back else r.give
abbrev yq:List Stp:=[.ev 0,.ev 1,.ev 2,.ev 3,.ev 4,.ev 5,.ev 6,.ev 7,.ev 8,.ev 9,.ev 10,.ev 11,.ev 12,.ev 13,.ev 14,.ev 15,.ef 16,.ef 17,.ev 18,.ef 19]
abbrev yp:List Stp:=[.ev 0,.ev 1,.ev 2,.ev 3,.ev 4,.ev 5,.ev 6,.ev 7,.ev 8,.ev 9,.ev 10,.ev 11,.ev 12,.ev 13,.ev 14,.ev 15,.ef 16,.ef 17,.ev 18,.ef 19]
theorem dY{φ ψ:Prop}(k:ψ)(h:Hid ψ→φ:=by intro k;(with_reducible apply G.d8);first|refine G.d7 (N:=96) (id:=10) yq mixed ap (Hid.out k)|refine G.d7 (N:=96) (id:=14) yp mixed ap (Hid.out k)):φ:=h ⟨k⟩
theorem qM{L:LH}(c:CatV)(hB:c.B)(hc:c.m.Ok)(rule:Int)(hr:0≤rule∧rule<c.rules.length)(failed:Bool)(times acct tick:Int)(ht:0≤times∧times≤1048576) :
  Tri ah 32 #[.agg c.cells.toArray,ab rule,.bool failed,ab times,ab acct,ab tick] (catP c::L) (fun v L'=>∃mad mcap,v=.agg (aJ ⟨0,4,acct,tick,iZ rule failed,times,iY acct times c.rules[rule.toNat]!.take.l (dR c.rules[rule.toNat]! failed).l,mad,mcap⟩).toArray ∧
   (iY acct times c.rules[rule.toNat]!.take.l (dR c.rules[rule.toNat]! failed).l).length≤mcap∧L' = isl aM 5 mad (iY acct times c.rules[rule.toNat]!.take.l (dR c.rules[rule.toNat]! failed).l)::catP c::L):=by
 obtain⟨hr0,hr1⟩:=hr;obtain⟨ht0,ht1⟩:=ht;have hix:rule.toNat<c.rules.length:=ac;have hmem:=aI hix;have hru:=hB.ru _ hmem;have hmm:c.rules[rule.toNat]!.m∈c.m.rules:=alStd0List_mem_map_of_mem hmem;have hct:=hc.take _ hmm;have hcg:=hc.give _ hmm;have hcb:=hc.back _ hmm;have hrl:=hB.rules;refine Tri.body (args:=[.agg c.cells.toArray,ab rule,.bool failed,ab times,ab acct,ab tick]) 96 en32 Tryz.func32 rfl rfl rfl (by simp) ?_;simp only[CatV.cells];refine G.ent (Ent.at (A:=catP c) catOpenR) ?_;refine G.ent (Ent.at (A:=allP ruP c.rules) ((Ent.d9 (f:=ruP) hmem).trans ruOpen)) ?_;repeat first|((fail_if_success (with_reducible refine G.e7 3 ?_));(with_reducible apply G.seq))|refine bB ?_|intro _|refine dY ?_
 rename_i b6 b12 b13;refine G.d9 (α:=Unit) (fun _=>True) (fun _=>[(0,.agg c.cells.toArray),(1,ab rule),(3,ab times),(4,ab acct),(6,au b6),(12,au b12),(13,au b13),(14,.slice (dR c.rules[rule.toNat]! failed).ad (dR c.rules[rule.toNat]! failed).l.length (dR c.rules[rule.toNat]! failed).cap)]) (fun _=>obj b13 bh [ab 0,ab 4,ab acct,ab tick,ab (iZ rule failed),ab times,.slice none 0 0]::obj b12 bh [ab 0,ab 0,ab 0,ab 0,ab 0,ab 0,.slice none 0 0]::obj b6 33 [.slice c.iad c.items.length c.icap,.slice c.rad c.rules.length c.rcap,.slice c.tad c.tables.length c.tcap,.slice c.xad c.taxes.length c.xcap]::amS (dR c.rules[rule.toNat]! failed)::amS c.rules[rule.toNat]!.take::isl bQ 9 c.rad c.rules::catP c::L) ?_ ?_
 ·cases failed with
  | true =>
   have e1:iZ rule true = -2 - rule:=rfl;have e2:dR c.rules[rule.toNat]! true=c.rules[rule.toNat]!.back:=rfl;rw[e1,e2];repeat first|refine aa ?_|intro _|refine dY ?_
   exact⟨(),trivial,aj,by exact ag⟩
  | false =>
   have e1:iZ rule false=rule:=rfl;have e2:dR c.rules[rule.toNat]! false=c.rules[rule.toNat]!.give:=rfl;rw[e1,e2];repeat first|refine aa ?_|intro _|refine dY ?_
   exact⟨(),trivial,aj,by exact ag⟩
 rintro _ _;have hgb:AmB (dR c.rules[rule.toNat]! failed).l:=by unfold dR;split;exact hcb;exact hcg
 have hgl:(dR c.rules[rule.toNat]! failed).l.length≤64:=by unfold dR;split;exact hru.2.2;exact hru.2.1
 have htl:=hru.1;repeat first|((fail_if_success (with_reducible refine G.e7 7 ?_));(with_reducible apply G.seq))|refine bB ?_|intro _|refine dY ?_
 clear hmem hmm hcg hcb hix hru;have hct:AmB c.rules[rule.toNat]!.take.l:=hct;generalize dR c.rules[rule.toNat]! failed=gv at *;generalize c.rules[rule.toNat]!.take=tk at *;repeat first|refine aa ?_|intro _|refine dY ?_
 refine G.loop (α:=Nat×OA×Nat) (fun g=>g.1≤tk.l.length) (fun g=>[(0,.agg c.cells.toArray),(3,ab times),(4,ab acct),(6,au b6),(12,au b12),(13,au b13),(14,.slice gv.ad gv.l.length gv.cap),(15,.slice tk.ad tk.l.length tk.cap),(16,ab (g.1:Int))]) (fun g=>osl aM 5 tMv g.2.1 g.2.2 ((tk.l.take g.1).map (fun a=>mvN acct 0 a.1 (a.2*times)))::obj b13 bh [ab 0,ab 4,ab acct,ab tick,ab (iZ rule failed),ab times,.slice g.2.1 ((tk.l.take g.1).map (fun a=>mvN acct 0 a.1 (a.2*times))).length g.2.2]::obj b12 bh [ab 0,ab 0,ab 0,ab 0,ab 0,ab 0,.slice none 0 0]::obj b6 33 [.slice c.iad c.items.length c.icap,.slice c.rad c.rules.length c.rcap,.slice c.tad c.tables.length c.tcap,.slice c.xad c.taxes.length c.xcap]::amS gv::amS tk::catP c::L) (fun g=>tk.l.length - g.1) (0,none,0) (ao _) aj ?_ ?_
 ·dsimp only;rw[ce,gm];refine(Ent.d8 aM 5 tMv).trans ?_;exact ag
 rintro⟨i,ad,cap⟩ hi;dsimp only at hi ⊢;by_cases hlt:i<tk.l.length
 case pos =>
  have hii:(i:Int).toNat=i:=aA i;have hlt' : (i:Int).toNat<tk.l.length:=ac;obtain⟨ha1,ha2⟩:=hct _ (aI hlt');have hmu:0≤tk.l[(i:Int).toNat]!.2*times∧tk.l[(i:Int).toNat]!.2*times≤1099511627776*1048576:=⟨dC ha1 ht0,eN ha2 ht1 ht0 ac⟩;obtain⟨hmu1,hmu2⟩:=hmu
  have htk:((tk.l.take (i+1)).map (fun a=>mvN acct 0 a.1 (a.2*times)))=(tk.l.take i).map (fun a=>mvN acct 0 a.1 (a.2*times))++[mvN acct 0 tk.l[(i:Int).toNat]!.1 (tk.l[(i:Int).toNat]!.2*times)]:=by
   rw[aC hlt,aZ,hii,getElem!_of hlt];rfl
  have hln:((tk.l.take i).map (fun a=>mvN acct 0 a.1 (a.2*times))).length≤128:=by
   simp only[az,aG,aY];omega
  generalize hZ:((tk.l.take i).map (fun a=>mvN acct 0 a.1 (a.2*times)))=Z at *;repeat first|refine aa ?_|intro _|refine dY ?_
  refine GPW.ef (Ef.d8 (enc:=aM) (e:=mvN acct 0 tk.l[(i:Int).toNat]!.1 (tk.l[(i:Int).toNat]!.2*times)) rfl rfl rfl rfl rfl (by rfl) (iD _) ac ac) ae ?_;rintro _ _⟨ad2,cap2,rfl,rfl⟩;repeat first|refine aa ?_|intro _|refine dY ?_
  refine⟨(i+1,ad2,cap2),by dsimp only;omega,by dsimp only;omega,?_,?_⟩
  ·dsimp only;rw[aP i];exact aj
  ·dsimp only;rw[htk];exact ag
 obtain rfl:i=tk.l.length:=ac;rw[bG];have hl0:(tk.l.map (fun a=>mvN acct 0 a.1 (a.2*times))).length=tk.l.length:=aG _;repeat first|refine aa ?_|intro _|refine dY ?_
 refine G.loop (α:=Nat×OA×Nat) (fun g=>g.1≤gv.l.length) (fun g=>[(0,.agg c.cells.toArray),(3,ab times),(4,ab acct),(6,au b6),(12,au b12),(13,au b13),(14,.slice gv.ad gv.l.length gv.cap),(17,ab (g.1:Int))]) (fun g=>osl aM 5 tMv g.2.1 g.2.2 (tk.l.map (fun a=>mvN acct 0 a.1 (a.2*times))++(gv.l.take g.1).map (fun a=>mvN 0 acct a.1 (a.2*times)))::obj b13 bh [ab 0,ab 4,ab acct,ab tick,ab (iZ rule failed),ab times,.slice g.2.1 (tk.l.map (fun a=>mvN acct 0 a.1 (a.2*times))++(gv.l.take g.1).map (fun a=>mvN 0 acct a.1 (a.2*times))).length g.2.2]::obj b12 bh [ab 0,ab 0,ab 0,ab 0,ab 0,ab 0,.slice none 0 0]::obj b6 33 [.slice c.iad c.items.length c.icap,.slice c.rad c.rules.length c.rcap,.slice c.tad c.tables.length c.tcap,.slice c.xad c.taxes.length c.xcap]::amS gv::amS tk::catP c::L) (fun g=>gv.l.length - g.1) (0,ad,cap) (ao _) ?_ ?_ ?_
 ·exact aj
 ·dsimp only;rw[ce,gm,ba];exact ag
 clear ad cap;rintro⟨i,ad,cap⟩ hi;dsimp only at hi ⊢;by_cases hlt:i<gv.l.length
 case pos =>
  have hii:(i:Int).toNat=i:=aA i;have hlt' : (i:Int).toNat<gv.l.length:=ac;obtain⟨ha1,ha2⟩:=hgb _ (aI hlt');have hmu:0≤gv.l[(i:Int).toNat]!.2*times∧gv.l[(i:Int).toNat]!.2*times≤1099511627776*1048576:=⟨dC ha1 ht0,eN ha2 ht1 ht0 ac⟩;obtain⟨hmu1,hmu2⟩:=hmu
  have htk:(tk.l.map (fun a=>mvN acct 0 a.1 (a.2*times))++(gv.l.take (i+1)).map (fun a=>mvN 0 acct a.1 (a.2*times)))=tk.l.map (fun a=>mvN acct 0 a.1 (a.2*times))++(gv.l.take i).map (fun a=>mvN 0 acct a.1 (a.2*times))++[mvN 0 acct gv.l[(i:Int).toNat]!.1 (gv.l[(i:Int).toNat]!.2*times)]:=by
   rw[aC hlt,aZ,hii,getElem!_of hlt,aH];rfl
  have hln:(tk.l.map (fun a=>mvN acct 0 a.1 (a.2*times))++(gv.l.take i).map (fun a=>mvN 0 acct a.1 (a.2*times))).length≤128:=by
   simp only[az,aG,aY];omega
  generalize hZ:(tk.l.map (fun a=>mvN acct 0 a.1 (a.2*times))++(gv.l.take i).map (fun a=>mvN 0 acct a.1 (a.2*times)))=Z at *;repeat first|refine aa ?_|intro _|refine dY ?_
  refine GPW.ef (Ef.d8 (enc:=aM) (e:=mvN 0 acct gv.l[(i:Int).toNat]!.1 (gv.l[(i:Int).toNat]!.2*times)) rfl rfl rfl rfl rfl (by rfl) (iD _) ac ac) ae ?_;rintro _ _⟨ad2,cap2,rfl,rfl⟩;repeat first|refine aa ?_|intro _|refine dY ?_
  refine⟨(i+1,ad2,cap2),by dsimp only;omega,by dsimp only;omega,?_,?_⟩
  ·dsimp only;rw[aP i];exact aj
  ·dsimp only;rw[htk];exact ag
 obtain rfl:i=gv.l.length:=ac;rw[bG];rw[show tk.l.map (fun a=>mvN acct 0 a.1 (a.2*times))++gv.l.map (fun a=>mvN 0 acct a.1 (a.2*times))=iY acct times tk.l gv.l from rfl];generalize iY acct times tk.l gv.l=Z;refine G.f7 (fI (ad:=ad) (cap:=cap) (xs:=Z) (enc:=aM) (sz:=5) (E:=tMv)) ?_;rintro⟨hcp,_⟩;repeat first|refine aa ?_|intro _|refine dY ?_
 exact KX.d7 (by exact ResOk.cell rfl (by rfl) (ResOk.nil)) ((Ent.frz ad).trans ag) ⟨ad,cap,rfl,hcp,rfl⟩
end
end Go.Proofs.YtommnllbflbdmaaGreatDoor
namespace Go.V
section tri
variable {P:Program}{f:FuncId}{args:Array Value}{L:LH}{post post' : Value→LH→Prop}
theorem Tri.f7{α:Type}{g:α→LH}(he:Enters P f)(h:∀x,Tri P f args (g x++L) post):Tri P f args (hex (fun x=>cL (g x))::L) post :=
 ⟨he,fun θ R w s=>by
  obtain⟨x,s1⟩:=Sat.ofHex (show Sat θ (hex (fun x=>cL (g x))::(L++R)) w from s);exact(h x).calls θ R w (by rw[aH];exact s1.ofStars)⟩
theorem Tri.e9{φ:Prop}(he:Enters P f)(h:φ→Tri P f args L post):Tri P f args (dy φ::L) post :=
 ⟨he,fun θ R w s=>(h (Sat.ofPure (show Sat θ (dy φ::(L++R)) w from s))).calls θ R w s.tail⟩
theorem Tri.conseq(h:Tri P f args L post)(hp:∀v L',post v L'→∃L'',post' v L''∧Ent L' L''):Tri P f args L post' :=
 ⟨h.enters,fun θ R w s=>(h.calls θ R w s).mono fun _ _ ⟨v,L',a,b,c⟩=>by
  obtain⟨L'',h1,h2⟩:=hp _ _ b;exact⟨v,L'',a,h1,h2 θ R _ c⟩⟩
theorem Tri.f8{φ:Prop}(he:Enters P f)(hφ:∀θ R w,Sat θ (L++R) w→φ)(h:φ→Tri P f args L post):Tri P f args L post :=
 ⟨he,fun θ R w s=>(h (hφ θ R w s)).calls θ R w s⟩
end tri
end Go.V
namespace Go.Proofs.YtommnllbflbdmaaGreatDoor
section
open Go.V
theorem lh{s:StV}(h3:s.moves.length≤3)(hp:∀m∈s.moves,m.m.parts=[])(hc:s.moves.length≤s.mcap)(hr:I64 s.rule)(hl:(∀m∈s.m.moves,m.frm≠m.to)→∀a i,lotsIn a i s.m.moves≤1):StG0 s:=by
 obtain⟨p1,p2,p3⟩:=yY hp;exact⟨⟨ac,hr,p1,p2,p3⟩,hc,.inr ⟨h3,hp⟩,hl⟩
theorem kN{m:MvM}(hp:m.parts.length≤1)(hne:m.frm≠m.to)(a i:Int):lotsIn a i [m]≤1:=by
 show((if m.to=a∧m.item=i then 1 else 0)+(if m.frm=a∧m.item=i then m.parts.length else 0))+0≤1;split
 ·rename_i h1;rw[if_neg (fun q=>hne (q.1.trans h1.1.symm))];omega
 ·split<;>omega
theorem wi{m n:MvM}(h1:m.parts=[])(h2:n.parts=[])(hi:m.item≠n.item)(a i:Int):lotsIn a i [m,n]≤1:=by
 have e:lotsIn a i [m,n]=((if m.to=a∧m.item=i then 1 else 0)+(if m.frm=a∧m.item=i then m.parts.length else 0))+(((if n.to=a∧n.item=i then 1 else 0)+(if n.frm=a∧n.item=i then n.parts.length else 0))+0):=rfl;rw[e,h1,h2];have g:∀(c:Prop) [Decidable c],(if c then([]:LL).length else 0)=0:=fun c _=>by split<;>rfl
 rw[g,g];by_cases c1:m.to=a∧m.item=i
 ·rw[if_pos c1,if_neg (fun q=>hi (c1.2.trans q.2.symm))];omega
 ·rw[if_neg c1];split<;>omega
theorem CO{acct times i1 i2 i3 n1 n2 n3:Int}(h:i1≠i2)(h0:acct≠0)(a i:Int):lotsIn a i ((iY acct times [(i1,n1),(i2,n2)] [(i3,n3)]).map MvV.m)≤1:=by
 have e:lotsIn a i ((iY acct times [(i1,n1),(i2,n2)] [(i3,n3)]).map MvV.m)=((if(0:Int)=a∧i1=i then 1 else 0)+(if acct=a∧i1=i then 0 else 0))+(((if(0:Int)=a∧i2=i then 1 else 0)+(if acct=a∧i2=i then 0 else 0))+(((if acct=a∧i3=i then 1 else 0)+(if(0:Int)=a∧i3=i then 0 else 0))+0)):=rfl;rw[e];have g:∀(c:Prop) [Decidable c],(if c then 0 else 0)=(0:Nat):=fun c _=>by split<;>rfl
 rw[g,g,g];by_cases c1:(0:Int)=a
 ·by_cases c2:i1=i
  ·rw[if_pos ⟨c1,c2⟩,if_neg (fun q=>h (c2.trans q.2.symm)),if_neg (fun q=>h0 (q.1.trans c1.symm))];omega
  ·rw[if_neg (fun q=>c2 q.2),if_neg (show ¬(acct=a∧i3=i) from fun q=>h0 (q.1.trans c1.symm))];split<;>omega
 ·rw[if_neg (fun q=>c1 q.1),if_neg (fun q=>c1 q.1)];split<;>omega
theorem Bn{acct times i1 i3 n1 n3:Int}(h0:acct≠0)(a i:Int):lotsIn a i ((iY acct times [(i1,n1)] [(i3,n3)]).map MvV.m)≤1:=by
 have e:lotsIn a i ((iY acct times [(i1,n1)] [(i3,n3)]).map MvV.m)=((if(0:Int)=a∧i1=i then 1 else 0)+(if acct=a∧i1=i then 0 else 0))+(((if acct=a∧i3=i then 1 else 0)+(if(0:Int)=a∧i3=i then 0 else 0))+0):=rfl;rw[e];have g:∀(c:Prop) [Decidable c],(if c then 0 else 0)=(0:Nat):=fun c _=>by split<;>rfl
 rw[g,g];by_cases c1:(0:Int)=a
 ·rw[if_neg (show ¬(acct=a∧i3=i) from fun q=>h0 (q.1.trans c1.symm))];split<;>omega
 ·rw[if_neg (fun q=>c1 q.1)];split<;>omega
theorem Gq{c:CatV}(hc:c.m=cat16){r:Int}(hr:1≤r∧r≤4){failed:Bool}(hf:failed=true→r=1){acct tick times:Int}(h0:acct≠0){mad:OA}{mcap:Nat}(hl:(iY acct times c.rules[r.toNat]!.take.l (dR c.rules[r.toNat]! failed).l).length≤mcap) :
  StG0 ⟨0,4,acct,tick,iZ r failed,times,iY acct times c.rules[r.toNat]!.take.l (dR c.rules[r.toNat]! failed).l,mad,mcap⟩:=by
 have hlen:c.rules.length=5:=by
  have:c.m.rules.length=c.rules.length:=by simp[CatV.m]
  rw[hc] at this;exact this.symm
 have hm:∀k,k<5→c.rules[k]!.m=cat16.rules[k]!:=fun k hk=>by
  rw[←hc];exact(eo RuV.m ac).symm
 have hI:I64 (iZ r failed):=by unfold I64 iZ;split<;>omega
 have htk:∀k,k<5→c.rules[k]!.take.l=(cat16.rules[k]!).take:=fun k hk=>congrArg RuM.take (hm k hk);have hgv:∀k,k<5→c.rules[k]!.give.l=(cat16.rules[k]!).give:=fun k hk=>congrArg RuM.give (hm k hk);have hbk:∀k,k<5→c.rules[k]!.back.l=(cat16.rules[k]!).back:=fun k hk=>congrArg RuM.back (hm k hk)
 have hcase:(c.rules[r.toNat]!.take.l=[(1,2),(2,1)]∧∃y,(dR c.rules[r.toNat]! failed).l=[y])∨(∃x y,c.rules[r.toNat]!.take.l=[x]∧(dR c.rules[r.toNat]! failed).l=[y]):=by
  have hg:∀k,k<5→failed=false→(dR c.rules[k]! failed).l=(cat16.rules[k]!).give:=fun k hk e=>by
   unfold dR;rw[if_neg (by rw[e];decide)];exact hgv k hk
  rcases (by omega:r=1∨r=2∨r=3∨r=4) with rfl|rfl|rfl|rfl
  ·refine .inl ⟨htk 1 ac,?_⟩;cases failed with
   | false=>exact⟨_,hg 1 ac rfl⟩
   | true=>exact⟨_,hbk 1 ac⟩
  all_goals
   have hff:failed=false:=by
    cases failed with
    | false=>rfl
    | true=>exact absurd (hf rfl) ae
  ·exact .inr ⟨_,_,htk 2 ac,hg 2 ac hff⟩
  ·exact .inr ⟨_,_,htk 3 ac,hg 3 ac hff⟩
  ·exact .inr ⟨_,_,htk 4 ac,hg 4 ac hff⟩
 have hg:(iY acct times c.rules[r.toNat]!.take.l (dR c.rules[r.toNat]! failed).l).length≤3∧∀a i,lotsIn a i ((iY acct times c.rules[r.toNat]!.take.l (dR c.rules[r.toNat]! failed).l).map MvV.m)≤1:=by
  rcases hcase with⟨e1,⟨y1,y2⟩,e2⟩|⟨⟨x1,x2⟩,⟨y1,y2⟩,e1,e2⟩
  ·rw[e1,e2];exact⟨aB _,fun a i=>CO ae h0 a i⟩
  ·rw[e1,e2];exact⟨bN 2,fun a i=>Bn h0 a i⟩
 exact lh hg.1 (qi _ _ _ _) hl hI (fun _ a i=>hg.2 a i)
theorem qj{L:LH}(c:CatV)(hc:c.m=cat16)(hB:c.B)(r:Int)(hr:1≤r∧r≤4)(failed:Bool)(hf:failed=true→r=1)(times acct tick:Int)(h0:acct≠0)(ht:0≤times∧times≤1048576) :
  Tri ah 32 #[.agg c.cells.toArray,ab r,.bool failed,ab times,ab acct,ab tick] (catP c::L) (fun v L'=>∃s:StV,v=.agg (aJ s).toArray∧StG0 s∧L' = stM s::stP s::catP c::L):=by
 have hlen:c.rules.length=5:=by
  have:c.m.rules.length=c.rules.length:=by simp[CatV.m]
  rw[hc] at this;exact this.symm
 refine(qM c hB (hc▸ri) r ⟨ac,ac⟩ failed times acct tick ht).conseq ?_;rintro v _ ⟨mad,mcap,rfl,hl,rfl⟩;refine⟨_,⟨_,rfl,Gq hc hr hf h0 hl,rfl⟩,?_⟩;exact(jt (iY acct times c.rules[r.toNat]!.take.l (dR c.rules[r.toNat]! failed).l) (qi _ _ _ _)).trans Ent.swap
theorem qg:∀{l:List RStk},jC l→∀s∈l,dG l s.acc s.item=s.stk
 | [],_,_,h=>by cases h
 | u::l,hd,s,h=>by
  unfold jC at hd;rw[bO,dM] at hd;unfold dG;rcases List.mem_cons.1 h with e|h
  ·rw[e,if_pos (show u.acc=u.acc∧u.item=u.item from⟨rfl,rfl⟩)]
  ·rw[if_neg (fun q=>hd.1 (by
    have h1:(s.acc,s.item)∈l.map (fun s=>(s.acc,s.item)):=alStd0List_mem_map_of_mem h;rw[show u.acc=s.acc from q.1,show u.item=s.item from q.2];exact h1))]
   exact qg (l:=l) hd.2 s h
inductive LRep (sh:Int) (c:CatM):LedM→Prop
 | zero:LRep sh c (led0 sh c)
 | post {S:LedM} {s:StM}:LRep sh c S→(gTry S s).1=0→LRep sh c (cT S s)
theorem oY{S:LedM}{s:StM}(h:(gTry S s).1=0):fL S.cat S.now s:=by
 unfold gTry at h;by_cases h1:65536≤S.steps.length
 ·rw[if_pos h1] at h;exact absurd (show(4:Int)=0 from h) ae
 ·rw[if_neg h1] at h;by_cases h2:fL S.cat S.now s
  ·exact h2
  ·rw[if_pos h2] at h;exact absurd (show(1:Int)=0 from h) ae
theorem StG0.at{s:StV}(h:StG0 s)(id:Int):StG0 (s.at id):=⟨⟨h.inp.len,h.inp.rule,h.inp.parts,h.inp.cap,h.inp.bd⟩,h.cap,h.form,h.lots⟩
theorem nw:∀{l:List StV},(∀s∈l,StG0 s)→(stK (l.map StV.m))≤3*l.length
 | [],_=>aB _
 | s::l,h=>by
  have h1:=nw (l:=l) (fun u hu=>h u (av _ hu));have h2:=(h s aw).k;show mvK s.m.moves+stK (l.map StV.m)≤3*(l.length+1);omega
structure GenR (sh:Int) (i:Nat) (S:LedM) (x:RLX):Prop where
 rf:RF S x
 led:∃k,k≤3*i∧LedA k S
 cat:S.cat=cat16
 shard:S.shard=sh
 steps:S.steps.length≤i
 st:∀s∈x.steps,StG0 s
 ne:∀s∈x.steps,∀m∈s.m.moves,m.frm≠m.to
 rep:LRep sh cat16 S
 cap:kI x.flows
theorem GenR.post{sh:Int}{i:Nat}{S:LedM}{x x' : RLX}{s:StV}(h:GenR sh i S x)(hi:3*i+3≤2000)(hs:StG0 s)(hF:RF (cT S s.m) x')(h0:(gTry S s.m).1=0→x'.steps=x.steps++[s.at (aR S)])(h1:(gTry S s.m).1≠0→x'.steps=x.steps)(h2:kI x.flows→kI x'.flows):GenR sh (i+1) (cT S s.m) x':=by
 obtain⟨k,hk,hl⟩:=h.led;have hm:=hs.k;have hsl:=h.steps;have hl':=(tg (s:=s.m) hl ac).1;have hc:(cT S s.m).cat=cat16:=(pb S s.m).trans h.cat;have hd:(cT S s.m).shard=sh:=(mT S s.m).trans h.shard;by_cases e:(gTry S s.m).1=0
 ·have e1:cT S s.m=gJ S s.m:=if_pos e;refine⟨hF,⟨_,ac,hl'⟩,hc,hd,?_,fun u hu=>?_,fun u hu=>?_,.post h.rep e,h2 h.cap⟩
  ·rw[e1];show(S.steps++[_]).length≤i+1;rw[az,bC];omega
  ·rw[h0 e] at hu;rcases List.mem_append.1 hu with hu|hu
   ·exact h.st u hu
   ·rw[List.mem_singleton.1 hu];exact hs.at _
  ·rw[h0 e] at hu;rcases List.mem_append.1 hu with hu|hu
   ·exact h.ne u hu
   ·rw[List.mem_singleton.1 hu];intro m hm;have hp:=possG_A.1 (oY e);exact(hp.2.2.2.2.1 m hm).2.2.2.2.1
 ·have e1:cT S s.m=S:=if_neg e;rw[e1] at hF ⊢;refine⟨hF,⟨k,ac,hl⟩,h.cat,h.shard,ac,fun u hu=>?_,fun u hu=>?_,h.rep,h2 h.cap⟩
  ·rw[h1 e] at hu;exact h.st u hu
  ·rw[h1 e] at hu;exact h.ne u hu
structure GenB (x:RLX):Prop where
 ok:rOk x.stks
 stks:x.stks.length≤100000
 steps:x.steps.length≤100000
 flows:x.flows.length≤10000000
 fl:∀f∈x.flows,(1≤f.m.n∧f.m.n≤1099511627776)∧f.m.id≤9000000000000000000
 lots:∀s∈x.stks,∀l∈s.stk.lots,l.1≤9000000000000000000
theorem GenR.lens{sh:Int}{i:Nat}{S:LedM}{x:RLX}(h:GenR sh i S x):x.steps.length=S.steps.length∧x.flows.length=S.flows.length∧S.flows.length≤64*S.steps.length∧x.stks.length≤2*x.flows.length:=by
 obtain⟨k,hk,hl⟩:=h.led;refine⟨?_,?_,hl.g.flows,h.rf.len⟩
 ·rw[←h.rf.steps,aG]
 ·rw[←h.rf.flows,aG]
theorem GenR.bnd{sh:Int}{i:Nat}{S:LedM}{x:RLX}(h:GenR sh i S x)(hi:i≤100):GenB x:=by
 obtain⟨k,hk,hl⟩:=h.led;obtain⟨e1,e2,e3,e4⟩:=h.lens;have e5:=h.steps;obtain⟨s1,s2⟩:=hl.g.shard;refine⟨h.rf.ok,ac,ac,ac,fun f hf=>?_,fun s hs l hl'=>?_⟩
 ·obtain⟨j,hj,rfl⟩:=List.mem_iff_getElem.1 hf;have hj2:j<S.flows.length:=ac
  have e:S.flows[j]! = (x.flows[j]).m:=by
   rw[getElem!_of hj2];simp only[←h.rf.flows,eU]
  have hn:=hl.fn j hj2;rw[e] at hn;refine⟨hn.2,?_⟩;rw[hn.1];omega
 ·have h1:=(hl.g.stk s.acc s.item).ok l (by rw[←h.rf.lots,qg h.rf.dist s hs];exact hl');have:=h1.2
  omega
theorem wY{α:Type}(f:α→HP)(l:List α):allP f l=allP (fun x:HP=>x) (l.map f):=by
 unfold allP;funext i w;refine propext ⟨fun h x hx=>?_,fun h x hx=>h _ (alStd0List_mem_map_of_mem hx)⟩;obtain⟨y,hy,rfl⟩:=List.mem_map.1 hx;exact h y hy
theorem Ent.m6{α:Type}{f:α→HP}{l l' : List α}(h:∀y∈l',∃x∈l,f y=f x){L:LH}:Ent (allP f l::L) (allP f l'::L):=by
 rw[wY f l,wY f l'];refine Ent.g9 (f:=fun x:HP=>x) fun x hx=>?_;obtain⟨y,hy,rfl⟩:=List.mem_map.1 hx;obtain⟨z,hz,e⟩:=h y hy;rw[e];exact alStd0List_mem_map_of_mem hz
structure StSp (s:StV):Prop where
 inp:StInG s
 cap:s.moves.length≤s.mcap
 k:mvK s.m.moves≤4
theorem lU:∀ms:List MvM,ms.length≤mvK ms
 | []=>aB _
 | m::ms=>by
  have:=lU ms
  show ms.length+1≤(m.parts.length+1)+mvK ms;omega
theorem StSp.len{s:StV}(h:StSp s):s.moves.length≤4:=by
 have h1:=lU s.m.moves;have h2:=h.k;have h3:s.m.moves.length=s.moves.length:=aG _;omega
theorem StG0.sp{s:StV}(h:StG0 s):StSp s:=⟨h.inp,h.cap,by have:=h.k;omega⟩
structure MvSp (ms ms' : List MvV):Prop where
 img:∀y∈ms',∃x∈ms,y.pad=x.pad∧y.m.parts=x.m.parts∧y.pcap=x.pcap
theorem MvSp.ent{ms ms' : List MvV}(h:MvSp ms ms'){L:LH}:Ent (allP mvP ms::L) (allP mvP ms'::L) :=
 Ent.m6 fun y hy=>by
  obtain⟨x,hx,e1,e2,_⟩:=h.img y hy;exact⟨x,hx,by show isl an 3 y.pad y.m.parts=isl an 3 x.pad x.m.parts;rw[e1,e2]⟩
theorem MvSp.inp{s s' : StV}(h:MvSp s.moves s'.moves)(hs:StInG s)(hl:s'.moves.length≤4)(hr:I64 s'.rule):StInG s':=by
 refine⟨ac,hr,fun m hm=>?_,fun m hm=>?_,fun m hm=>?_⟩
 ·obtain⟨x,hx,e1,e2,e3⟩:=h.img m hm;rw[e2];exact hs.parts x hx
 ·obtain⟨x,hx,e1,e2,e3⟩:=h.img m hm;rw[e2,e3];exact hs.cap x hx
 ·obtain⟨x,hx,e1,e2,e3⟩:=h.img m hm;rw[e2];exact hs.bd x hx
theorem ju(ms:List MvV):MvSp ms ms:=⟨fun y hy=>⟨y,hy,rfl,rfl,rfl⟩⟩
theorem me{ms:List MvV}{j:Nat}(hj:j<ms.length){m:MvV}(h:m.pad=ms[j]!.pad∧m.m.parts=ms[j]!.m.parts∧m.pcap=ms[j]!.pcap):MvSp ms (ms.set j m):=⟨fun y hy=>by
 rcases cK hy with h1|rfl
 ·exact⟨y,h1,rfl,rfl,rfl⟩
 ·exact⟨_,aI hj,h⟩⟩
theorem we{ms:List MvV}{j:Nat}(hj:j<ms.length):MvSp ms (ms++[ms[j]!]):=⟨fun y hy=>by
 rcases List.mem_append.1 hy with h1|h1
 ·exact⟨y,h1,rfl,rfl,rfl⟩
 ·rw[List.mem_singleton.1 h1];exact⟨_,aI hj,rfl,rfl,rfl⟩⟩
theorem sT:∀{ms:List MvV} {j:Nat} (_:j<ms.length) (m:MvV),mvK ((ms.set j m).map MvV.m)+ms[j]!.m.parts.length=mvK (ms.map MvV.m)+m.m.parts.length
 | [],_,h,_=>absurd h (cd _)
 | x::ms,0,_,m=>by
  show(m.m.parts.length+1)+mvK (ms.map MvV.m)+x.m.parts.length=(x.m.parts.length+1)+mvK (ms.map MvV.m)+m.m.parts.length;omega
 | x::ms,j+1,h,m=>by
  have:=sT (ms:=ms) (j:=j) (by simpa using h) m
  have e:(x::ms)[j+1]! = ms[j]!:=rfl;rw[e];show(x.m.parts.length+1)+mvK ((ms.set j m).map MvV.m)+ms[j]!.m.parts.length=(x.m.parts.length+1)+mvK (ms.map MvV.m)+m.m.parts.length;omega
theorem FM{ms:List MvV}{j:Nat}:mvK ((ms++[ms[j]!]).map MvV.m)=mvK (ms.map MvV.m)+(ms[j]!.m.parts.length+1):=by
 rw[aZ,lJ];rfl
theorem StG0.k0{s:StV}(h:StG0 s)(h0:0<s.moves.length):mvK (s.moves.map MvV.m)+(s.moves[0]!.m.parts.length+1)≤4:=by
 have hl:s.m.moves.length=s.moves.length:=aG _;rcases h.form with⟨h1,h2⟩|⟨h1,h2⟩
 ·match hm:s.moves,h1,h2,h0 with
  | [m],_,h2,_ =>
   have:=h2 m aw
   show((m.m.parts.length+1)+0)+(m.m.parts.length+1)≤4;omega
 ·have h3:=h2 _ (aI h0)
  rw[h3,qO (fun m hm=>by
   obtain⟨u,hu,rfl⟩:=List.mem_map.1 hm;exact h2 u hu),aG]
  show s.moves.length+(0+1)≤4;omega
theorem lS{s s' : StV}(h:StG0 s)(hm:s'.moves=s.moves)(hc:s'.moves.length≤s'.mcap)(hr:I64 s'.rule):StSp s':=by
 have hk:=h.k;have hk' : mvK s'.m.moves=mvK s.m.moves:=by show mvK (s'.moves.map MvV.m)=mvK (s.moves.map MvV.m);rw[hm]
 have hl:=lU s.m.moves;have hl2:s.m.moves.length=s.moves.length:=aG _;exact⟨(show MvSp s.moves s'.moves by rw[hm];exact ju _).inp h.inp (by rw[hm];omega) hr,hc,ac⟩
theorem rH{s s' : StV}(h:StG0 s){j:Nat}{m:MvV}(hj:j<s.moves.length)(hm:s'.moves=s.moves.set j m)(he:m.pad=s.moves[j]!.pad∧m.m.parts=s.moves[j]!.m.parts∧m.pcap=s.moves[j]!.pcap)(hc:s'.moves.length≤s'.mcap)(hr:I64 s'.rule):StSp s':=by
 have hk:=h.k;have hs:=sT hj m
 have hk' : mvK s'.m.moves≤3:=by
  show mvK (s'.moves.map MvV.m)≤3;rw[hm];rw[he.2.1] at hs;have:mvK (s.moves.map MvV.m)≤3:=hk;omega
 have hl:=lU s'.m.moves;have hl2:s'.m.moves.length=s'.moves.length:=aG _;exact⟨(show MvSp s.moves s'.moves by rw[hm];exact me hj he).inp h.inp ac hr,hc,ac⟩
theorem Go{s s' : StV}(h:StG0 s)(h0:0<s.moves.length)(hm:s'.moves=s.moves++[s.moves[0]!])(hc:s'.moves.length≤s'.mcap)(hr:I64 s'.rule):StSp s':=by
 have hk:=h.k0 h0
 have hk' : mvK s'.m.moves≤4:=by
  show mvK (s'.moves.map MvV.m)≤4;rw[hm,FM];exact hk
 have hl:=lU s'.m.moves;have hl2:s'.m.moves.length=s'.moves.length:=aG _;exact⟨(show MvSp s.moves s'.moves by rw[hm];exact we h0).inp h.inp ac hr,hc,hk'⟩
theorem Fy{s s' : StV}(h:StG0 s)(h0:0<s.moves.length){m:MvV}{p:Lot}(hm:s'.moves=s.moves.set 0 m)(hp:m.m.parts=[p])(hb:p.1≤9223372036854775807)(h1:m.pcap=1)(hc:s'.moves.length≤s'.mcap)(hr:I64 s'.rule):StSp s':=by
 have hk:=h.k0 h0;have hs:=sT h0 m;have hl1:m.m.parts.length=1:=by rw[hp];rfl
 have hk' : mvK s'.m.moves≤4:=by
  show mvK (s'.moves.map MvV.m)≤4;rw[hm];omega
 have hl:=lU s'.m.moves;have hl2:s'.m.moves.length=s'.moves.length:=aG _;have hmem:∀u∈s'.moves,u∈s.moves∨u=m:=fun u hu=>by rw[hm] at hu;exact cK hu
 refine⟨⟨ac,hr,fun u hu=>?_,fun u hu=>?_,fun u hu q hq=>?_⟩,hc,hk'⟩
 ·rcases hmem u hu with g|rfl
  ·exact h.inp.parts u g
  ·omega
 ·rcases hmem u hu with g|rfl
  ·exact h.inp.cap u g
  ·omega
 ·rcases hmem u hu with g|rfl
  ·exact h.inp.bd u g q hq
  ·rw[hp] at hq;rw[List.mem_singleton.1 hq];exact hb
theorem part_allP{ms:List MvV}{m:MvV}{L:LH}:Ent (mvP m::allP mvP ms::L) (allP mvP (ms.set 0 m)::L) :=
 (Ent.f8 (f:=mvP) iA).trans (Ent.g9 fun x hx=>by
  rcases cK hx with h|h
  ·exact av _ h
  ·rw[h];exact aw)
