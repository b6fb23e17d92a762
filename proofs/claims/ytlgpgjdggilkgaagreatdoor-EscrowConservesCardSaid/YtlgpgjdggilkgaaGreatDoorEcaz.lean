/- Lemmas. -/
import Derived.Test.YtlgpgjdggilkgaaGreatDoorEcay
set_option linter.all false
set_option maxHeartbeats 8000000
namespace Go.Proofs.YtlgpgjdggilkgaaGreatDoor
section
open Go.V
attribute [local irreducible] G GO GP GPW GPK GF GE Ev Ef EfR Ent CB GB V.Enters
abbrev CL:=XE [.ef 13,.ev 14]
def co{φ ψ:Prop}(k:ψ)(h:Hid ψ→φ:=by intro k;(with_reducible apply G.a8);first|refine G.dr 71 7 CL (Hid.out k)):φ:=h ⟨k⟩
def Ps{φ ψ:Prop}(k:ψ)(h:Hid ψ→φ:=by intro k;(repeat (first|refine aa ?_|intro zzz|refine co ?_));(repeat revert zzz);exact Hid.out k):φ:=h ⟨k⟩
def Ee{L:LH}(b bc:Nat)(sh:Int)(x:LedX)(s:StV)(z:ChG)(l:LL)(hm:SetS (uOf z.imp x.imp) l)(hl:l.length≤2000)(d4:∀y∈l,LotOk y)(m:MvV)[hr:Rds L m.pad Lot aG 3 m.m.parts](hp:∀p∈m.m.parts,LotOk p)(hb:∀p∈m.m.parts,p.1≤9223372036854775807)(e0:m.m.parts.length≤2000) :
  Tri Tryz.prog 276 #[ax bc,aU (cj m)] (chgL b bc s z (ledL b sh x L)) (fun v L'=>∃u,v=ac (impG sh m.m.parts l)∧(impG sh m.m.parts l=0→SetS (uOf u x.imp) (l++m.m.parts))∧L' = chgL b bc s { z with imp:=u } (ledL b sh x L)):=by
 obtain⟨⟨frm,to,item,mn,parts⟩,pad,pcap⟩:=m;dsimp only at hr hp hb e0 ⊢;refine Tri.bd (args:=[ax bc,aU (cj ⟨⟨frm,to,item,mn,parts⟩,pad,pcap⟩)]) ?_;simp only[cj,chgL,ck,ledL,bW];refine Ps ?_;intros;rename_i b3;refine G.loop (α:=Nat×List (Int×Stk)) (fun g=>g.1≤parts.length∧SetS (uOf g.2 x.imp) (l++parts.take g.1)∧impG sh parts l=impG sh (parts.drop g.1) (l++parts.take g.1)) (fun g=>[(0,ax bc),(12,ag pad parts.length pcap),(13,ac parts.length),(14,ac (g.1:Int))]) (fun g=>chgL b bc s { z with imp:=g.2 } (ledL b sh x (L))) (fun g=>parts.length - g.1) (0,z.imp) ⟨aw _,by rw[aR,aH];exact hm,by rw[aR,aH];rfl⟩ aC (by(try simp only[chgL,ck,ledL,bW]);exact ah) ?_;rintro⟨i,mp⟩ ⟨hi,a3,hg⟩;dsimp only at hi a3 hg ⊢;by_cases b1:i<parts.length
 case neg =>
  rw[bQ ab,aD ab] at hg;rw[aD ab] at a3;have d2:impG sh parts l=0:=hg;rw[d2];(try simp only[chgL,ck,ledL,bW]);refine Ps ?_;intros;refine KX.a8 aA ?_ ⟨mp,rfl,fun _=>a3,rfl⟩;(try simp only[chgL,ck,ledL,bW]);exact ah
 have d3:(i:Int).toNat=i:=aY i;have d5 : (i:Int).toNat<parts.length:=ab;have e1:parts[(i:Int).toNat]! = parts[i]!:=by rw[d3]
 have b5:l++parts.take (i+1)=l++parts.take i++[parts[(i:Int).toNat]!]:=by rw[e1,az b1,getElem!_of b1,aB]
 have d6:(l++parts.take i).length≤4000:=by rw[aj,aK];omega
 have b0:∀y∈l++parts.take i,LotOk y:=fun y hy=>by
  rcases List.mem_append.1 hy with q|q
  ·exact d4 y q
  ·exact hp y (bF q)
 have c6:=hb _ (aV b1);have a4:=hp _ (aV b1);rw[←e1] at c6 a4;rw[jl b1,vn,←e1] at hg;rw[←b5] at hg;have b9:impG sh parts l≠0→(impG sh parts l=0→SetS (uOf mp x.imp) (l++parts)):=fun h q=>absurd q h;obtain⟨p,d0⟩:∃p,parts[(i:Int).toNat]! = p:=⟨_,rfl⟩;rw[d0] at c6 a4 hg b5;clear e1;have c0:=a4;unfold LotOk at c0;have a9:=wQ a3 b0 a4;(try simp only[chgL,ck,ledL,bW]);refine Ps ?_;intros;rw[d0];simp only[aG];refine Ps ?_;intros;by_cases c1:p.1 / 4294967296=sh
 ·rw[if_pos (.inl c1)] at hg;rw[hg] at b9 ⊢;refine Ps ?_;intros;exact KX.a8 aA (by(try simp only[chgL,ck,ledL,bW]);exact ah) ⟨mp,rfl,fun h=>absurd h ae,rfl⟩
 by_cases c2:11<p.1 / 4294967296
 ·rw[if_pos (.inr c2)] at hg;rw[hg] at b9 ⊢;refine Ps ?_;intros;exact KX.a8 aA (by(try simp only[chgL,ck,ledL,bW]);exact ah) ⟨mp,rfl,fun h=>absurd h ae,rfl⟩
 rw[if_neg (fun q=>q.elim c1 c2)] at hg;refine Ps ?_;intros;refine GPW.cr (sT (z:=mp) (x:=x.imp) p.1) ?_;have b4:=a3.ok p.1;have a7:=a3.cap p.1;have e3:=a3.len p.1;have a6:=fun (h:¬ ∃y∈(uOf mp x.imp p.1).lots,¬apart y p) (ys:LL) (hy:gV hdC ((uOf mp x.imp p.1).lots++[p]) ys) (s' : Stk) (h1:s'.lots=zset ys) (h2:(zset ys).length≤s'.cap)=>wR (g':=uOf (gins mp p.1 s') x.imp) a3 b0 a4 h hy (by rw[kC,if_pos rfl,h1]) (by rw[kC,if_pos rfl];exact h2) (fun f e=>by rw[kC,if_neg e]);have b2:=fun M:LH=>qN (z:=mp) (x:=x.imp) p.1 (L:=M);generalize uOf mp x.imp p.1=sk at *;obtain⟨sad,scap,a0⟩:=sk;dsimp only at b4 a7 e3 a6 a9
 have d1:∀y∈a0++[p],LotOk y:=fun y hy=>by
  rcases List.mem_append.1 hy with q|q
  ·exact b4.ok y q
  ·rw[List.mem_singleton.1 q];exact a4
 simp only[Stk.v];refine Ps ?_;intros;rename_i b6 bl;refine GO.ent (L':=[isl aG 3 (some ⟨bl,0,none⟩) [p],isl aG 3 sad a0]++(isl aG 3 sad a0::chgL b bc s { z with imp:=mp } (ledL b sh x (obj b6 tLot (aG p)::L)))) ?_ ?_
 ·refine(Ent.at (A:=obj bl tLot [ac p.1,ac p.2.1,ac p.2.2]) (Ent.f7 (enc:=aG) (sz:=3) (xs:=[p]) (n:=1) rfl rfl (fun _ _=>rfl) ae)).trans (Ent.freezeSl.trans ?_);refine(Ent.at (A:=allP (fun p:Int×Stk=>stkP p.2) mp) (Ent.refl _)).trans ?_;refine(Ent.a8 (Ent.at (A:=allP (fun p:Int×Stk=>stkP p.2) x.imp) (Ent.refl _))).trans ?_;refine(b2 _).trans ?_;refine Ent.trans (show Ent (stkP ⟨sad,scap,a0⟩::_) (isl aG 3 sad a0::_) from Ent.refl _) ?_;refine(Ent.dup (bO _ _ _ _).pers).trans ?_;simp only[chgL,ck,ledL,bW,aG,al,ak];exact ah
 simp only[al,ak];(first|refine GO.ef (Ef.call (qC (some ⟨bl,0,none⟩) 1 [p] sad scap a0 (by rw[aI];decide) ab (fun y hy=>by rw[List.mem_singleton.1 hy];exact a4) b4) rfl dd) ae ?_);rintro _ _⟨_,⟨e4,e6,e5,e7,rfl,rfl⟩,hL⟩;simp only[al,ak] at hL;subst hL;have c4:=Br b4 a4;generalize hpi:(pcI [p] a0).length=pn at c4;refine Ps ?_;intros;by_cases c3:∃y∈a0,¬apart y p
 ·have e2:=c4.2 c3;rw[if_pos (a9.1 c3)] at hg;rw[hg] at b9 ⊢;(try simp only[chgL,ck,ledL,bW]);refine Ps ?_;intros;exact KX.a8 aA (by(try simp only[chgL,ck,ledL,bW]);exact ah) ⟨mp,rfl,fun h=>absurd h ae,rfl⟩
 have e2:¬0<pn:=fun q=>c3 (c4.1 q);rw[if_neg (fun q=>c3 (a9.2 q))] at hg;repeat first|refine G.sn 11 ?_|refine dq ?_|intro _|refine co ?_
 refine G.ent (L':=asl aG 3 tLot sad a0.length a0::obj b6 tLot [ac p.1,ac p.2.1,ac p.2.2]::chgL b bc s { z with imp:=mp } (ledL b sh x (L))) ?_ ?_
 ·refine(Ent.at (A:=isl aG 3 sad a0) (Ent.m5 (E:=tLot) (by simp only[maxLen];omega))).trans ?_;(try simp only[chgL,ck,ledL,bW,aG]);exact ah
 ·skip;simp only[chgL,ck,ledL,bW];refine G.d9 mixed krStd0 ?_;refine GF.evP (i:=0) rfl krStd0 (Ev.move rfl) ae ?_;refine GF.evP (i:=1) rfl krStd0 (Ev.nilCheck rfl) ae ?_;refine GF.evP (i:=2) rfl krStd0 (by first|exact Ev.fieldAddr rfl|exact Ev.f8 rfl) ae ?_;refine GF.evL (i:=3) rfl krStd0 (by first|exact Ev.c8 rfl rfl|exact Ev.d7 rfl aQ|exact Ev.c9 rfl rfl|exact Ev.d8 rfl ab|exact Ev.f7 rfl ab ae rfl) ae ?_;refine GF.evP (i:=4) rfl krStd0 (by first|exact Ev.fieldAddr rfl|exact Ev.f8 rfl) ae ?_;refine GF.evL (i:=5) rfl krStd0 (by first|exact Ev.c8 rfl rfl|exact Ev.d7 rfl aQ|exact Ev.c9 rfl rfl|exact Ev.d8 rfl ab|exact Ev.f7 rfl ab ae rfl) ae ?_;refine GF.evP (i:=6) rfl krStd0 (Ev.move rfl) ae ?_;refine GF.evL (i:=8) rfl krStd0 (by first|exact Ev.c8 rfl rfl|exact Ev.d7 rfl aQ|exact Ev.c9 rfl rfl|exact Ev.d8 rfl ab|exact Ev.f7 rfl ab ae rfl) ae ?_;refine GF.a8 7 9 krStd0 ?_ ?_
  ·refine GE.ef rfl (Ef.d9 (lj sad a0.length scap a7) rfl) ae ?_;rintro _ _⟨rfl,rfl⟩;refine⟨(by intro pe hp;simp only[dJ,ay,or_false] at hp;rcases hp with rfl|rfl|rfl<;>first|exact Ev.c8 rfl rfl|exact Ev.d7 rfl aQ|exact Ev.c9 rfl rfl),?_⟩;refine GF.plan [.ef 9,.ef 10,.ef 11,.ef 12] krStd0 rfl ?_;refine Ps ?_;intros;refine GPW.ef (Ef.j6 (enc:=aG) (e:=p) rfl rfl rfl rfl rfl aQ (eV _) ab ab) ae ?_;rintro _ _⟨b7,a5,rfl,rfl⟩;refine Ps ?_;intros;refine GPW.ca (jf b7 (a0++[p]).length a5 (a0++[p]) rfl (by rw[aj,aI];omega) d1) ?_;rintro _ _⟨a2,a1,ys,rfl,c5,rfl⟩;refine Ps ?_;intros;refine GPW.fct (kE (ad:=a2) (cap:=a1) (xs:=zset ys) (enc:=aG) (sz:=3) (E:=tLot)) ?_;rintro⟨b8,_⟩;refine GPW.efu (Ef.c9 (enc:=Stk.v) (e:=(⟨a2,a1,zset ys⟩:Stk)) rfl rfl rfl rfl) ?_;rintro _ _⟨rfl,rfl⟩;refine Ps ?_;intros;refine⟨(i+1,gins mp p.1 ⟨a2,a1,zset ys⟩),⟨by dsimp only;omega,by dsimp only;rw[b5];exact a6 c3 ys c5 ⟨a2,a1,zset ys⟩ rfl b8,hg⟩,by dsimp only;omega,by dsimp only;rw[bh i];exact aC,?_⟩;refine(Ent.frz a2).trans ?_;refine(Ent.at (A:=allP (fun p:Int×Stk=>stkP p.2) mp) (Ent.refl _)).trans ?_;refine(Ent.at (A:=isl aG 3 a2 (zset ys)) (lx (s:=⟨a2,a1,zset ys⟩) (k:=p.1))).trans ?_;simp only[chgL,ck,ledL,bW];exact ah
  ·refine GE.ef rfl (Ef.lit rfl rfl ae rfl) ae ?_;rintro _ _⟨bm,rfl,rfl⟩;refine⟨(by intro pe hp;simp only[dJ,ay,or_false] at hp;rcases hp with rfl|rfl|rfl<;>first|exact Ev.c8 rfl rfl|exact Ev.d7 rfl aQ|exact Ev.c9 rfl rfl),?_⟩;refine GF.plan [.ef 7,.ef 10,.ef 11,.ef 12] krStd0 rfl ?_;refine Ps ?_;intros;refine GPW.cr (lj sad a0.length scap a7) ?_;refine Ps ?_;intros;refine GPW.ef (Ef.j6 (enc:=aG) (e:=p) rfl rfl rfl rfl rfl aQ (eV _) ab ab) ae ?_;rintro _ _⟨b7,a5,rfl,rfl⟩;refine Ps ?_;intros;refine GPW.ca (jf b7 (a0++[p]).length a5 (a0++[p]) rfl (by rw[aj,aI];omega) d1) ?_;rintro _ _⟨a2,a1,ys,rfl,c5,rfl⟩;refine Ps ?_;intros;refine GPW.fct (kE (ad:=a2) (cap:=a1) (xs:=zset ys) (enc:=aG) (sz:=3) (E:=tLot)) ?_;rintro⟨b8,_⟩;refine GPW.efu (Ef.c9 (enc:=Stk.v) (e:=(⟨a2,a1,zset ys⟩:Stk)) rfl rfl rfl rfl) ?_;rintro _ _⟨rfl,rfl⟩;refine Ps ?_;intros;refine⟨(i+1,gins mp p.1 ⟨a2,a1,zset ys⟩),⟨by dsimp only;omega,by dsimp only;rw[b5];exact a6 c3 ys c5 ⟨a2,a1,zset ys⟩ rfl b8,hg⟩,by dsimp only;omega,by dsimp only;rw[bh i];exact aC,?_⟩;refine(Ent.frz a2).trans ?_;refine(Ent.at (A:=allP (fun p:Int×Stk=>stkP p.2) mp) (Ent.refl _)).trans ?_;refine(Ent.at (A:=isl aG 3 a2 (zset ys)) (lx (s:=⟨a2,a1,zset ys⟩) (k:=p.1))).trans ?_;simp only[chgL,ck,ledL,bW];exact ah
abbrev zX:=XD [.ev 10,.ev 11]
abbrev xv:=XE [.ef 13,.ev 14]
def bS{φ ψ:Prop}(k:ψ)(h:Hid ψ→φ:=by intro k;(with_reducible apply G.a8);first|refine G.dr 116 4 zX (Hid.out k)|refine G.dr 116 10 xv (Hid.out k)):φ:=h ⟨k⟩
def PN{φ ψ:Prop}(k:ψ)(h:Hid ψ→φ:=by intro k;(repeat (first|refine aa ?_|intro zzz|refine bS ?_));(repeat revert zzz);exact Hid.out k):φ:=h ⟨k⟩
def wZ{L:LH}(b bc:Nat)(sh:Int)(x:LedX)(s:StV)(z:ChG)(l:LL)(hm:SetS (uOf z.ret x.ret) l)(hl:l.length≤2000)(e9:∀y∈l,LotOk y)(m:MvV)[hr:Rds L m.pad Lot aG 3 m.m.parts](hp:∀p∈m.m.parts,LotOk p)(hb:∀p∈m.m.parts,p.1≤9223372036854775807)(f3:m.m.parts.length≤2000)(f5:0≤sh∧sh<12)(g6:x.flows.length≤9000000)(e6:∀f∈x.flows,f.m.n≤9223372036854775807) :
  Tri Tryz.prog 277 #[ax bc,aU (cj m)] (chgL b bc s z (ledL b sh x L)) (fun v L'=>∃u,v=ac (retG sh (x.flows.map FlV.m) m.m.item m.m.parts l)∧(retG sh (x.flows.map FlV.m) m.m.item m.m.parts l=0→SetS (uOf u x.ret) (l++m.m.parts))∧L' = chgL b bc s { z with ret:=u } (ledL b sh x L)):=by
 obtain⟨⟨frm,to,item,mn,parts⟩,pad,pcap⟩:=m;dsimp only at hr hp hb f3 ⊢;generalize hfe:x.flows.map FlV.m=fl;have e4:fl.length=x.flows.length:=by rw[←hfe,an]
 refine Tri.bd (args:=[ax bc,aU (cj ⟨⟨frm,to,item,mn,parts⟩,pad,pcap⟩)]) ?_;simp only[cj,chgL,ck,ledL,bW];refine PN ?_;intros;rename_i b3;refine G.loop (α:=Nat×List (Int×Stk)) (fun g=>g.1≤parts.length∧SetS (uOf g.2 x.ret) (l++parts.take g.1)∧retG sh fl item parts l=retG sh fl item (parts.drop g.1) (l++parts.take g.1)) (fun g=>[(0,ax bc),(3,ax b3),(13,ag pad parts.length pcap),(14,ac parts.length),(15,ac (g.1:Int))]) (fun g=>chgL b bc s { z with ret:=g.2 } (ledL b sh x (obj b3 tMv [ac frm,ac to,ac item,ac mn,ag pad parts.length pcap]::L))) (fun g=>parts.length - g.1) (0,z.ret) ⟨aw _,by rw[aR,aH];exact hm,by rw[aR,aH];rfl⟩ aC (by(try simp only[chgL,ck,ledL,bW]);exact ah) ?_;rintro⟨i,mp⟩ ⟨hi,a4,hg⟩;dsimp only at hi a4 hg ⊢;by_cases b4:i<parts.length
 case neg =>
  rw[bQ ab,aD ab] at hg;rw[aD ab] at a4;have e7:retG sh fl item parts l=0:=hg;rw[e7];(try simp only[chgL,ck,ledL,bW]);refine PN ?_;intros;refine KX.a8 aA ?_ ⟨mp,rfl,fun _=>a4,rfl⟩;(try simp only[chgL,ck,ledL,bW]);exact ah
 have e8:(i:Int).toNat=i:=aY i;have f0 : (i:Int).toNat<parts.length:=ab;have e1:parts[(i:Int).toNat]! = parts[i]!:=by rw[e8]
 have b9:l++parts.take (i+1)=l++parts.take i++[parts[(i:Int).toNat]!]:=by rw[e1,az b4,getElem!_of b4,aB]
 have f1:(l++parts.take i).length≤4000:=by rw[aj,aK];omega
 have b2:∀y∈l++parts.take i,LotOk y:=fun y hy=>by
  rcases List.mem_append.1 hy with q|q
  ·exact e9 y q
  ·exact hp y (bF q)
 have d0:=hb _ (aV b4);have a5:=hp _ (aV b4);rw[←e1] at d0 a5;rw[jl b4,nr,←e1] at hg;rw[←b9] at hg;have f2:retG sh fl item parts l≠0→(retG sh fl item parts l=0→SetS (uOf mp x.ret) (l++parts)):=fun h q=>absurd q h;obtain⟨p,e2⟩:∃p,parts[(i:Int).toNat]! = p:=⟨_,rfl⟩;rw[e2] at d0 a5 hg b9;clear e1;have c4:=a5;unfold LotOk at c4;have b0:=wQ a4 b2 a5;(try simp only[chgL,ck,ledL,bW]);refine PN ?_;intros;rw[e2];simp only[aG];refine PN ?_;intros;obtain⟨k,hk⟩:∃k,k=p.1 - sh*4294967296:=⟨_,rfl⟩;have a2:gotB sh fl item p↔(0≤k∧k<fl.length)∧fl[k.toNat]!.to=0∧fl[k.toNat]!.kind≠6∧fl[k.toNat]!.item=item∧p.2.1+p.2.2≤fl[k.toNat]!.n:=by rw[hk];rfl
 have b1:¬gotB sh fl item p→retG sh fl item parts l=10:=fun q=>by rw[hg,if_neg (fun r=>q r.1)]
 obtain⟨f6,g0⟩:=f5;rw[←hk];by_cases d1:0≤k
 case neg =>
  rw[b1 (fun q=>d1 (a2.1 q).1.1)];refine PN ?_;intros;exact KX.a8 aA (by(try simp only[chgL,ck,ledL,bW]);exact ah) ⟨mp,rfl,fun h=>absurd h ae,rfl⟩
 by_cases d2:k<x.flows.length
 case neg =>
  rw[b1 (fun q=>d2 (by have:=(a2.1 q).1.2;omega))];refine PN ?_;intros;exact KX.a8 aA (by(try simp only[chgL,ck,ledL,bW]);exact ah) ⟨mp,rfl,fun h=>absurd h ae,rfl⟩
 have e0:k.toNat<x.flows.length:=ab;obtain⟨f,hf⟩:∃f,x.flows[k.toNat]! = f:=⟨_,rfl⟩;have e5:fl[k.toNat]! = f.m:=by rw[←hfe,←hf];exact iZ FlV.m e0
 have c2:=e6 _ (aV e0);rw[hf] at c2;rw[e5] at a2;refine PN ?_;intros;rw[hf];simp only[dT];by_cases d3:f.m.to=0
 case neg =>
  rw[b1 (fun q=>d3 (a2.1 q).2.1)];refine PN ?_;intros;exact KX.a8 aA (by(try simp only[chgL,ck,ledL,bW]);exact ah) ⟨mp,rfl,fun h=>absurd h ae,rfl⟩
 by_cases d4:f.m.kind=6
 case pos =>
  rw[b1 (fun q=>(a2.1 q).2.2.1 d4)];refine PN ?_;intros;exact KX.a8 aA (by(try simp only[chgL,ck,ledL,bW]);exact ah) ⟨mp,rfl,fun h=>absurd h ae,rfl⟩
 by_cases d5:f.m.item=item
 case neg =>
  rw[b1 (fun q=>d5 (a2.1 q).2.2.2.1)];refine PN ?_;intros;exact KX.a8 aA (by(try simp only[chgL,ck,ledL,bW]);exact ah) ⟨mp,rfl,fun h=>absurd h ae,rfl⟩
 by_cases d6:p.2.1+p.2.2≤f.m.n
 case neg =>
  rw[b1 (fun q=>d6 (a2.1 q).2.2.2.2)];refine PN ?_;intros;exact KX.a8 aA (by(try simp only[chgL,ck,ledL,bW]);exact ah) ⟨mp,rfl,fun h=>absurd h ae,rfl⟩
 have cg:gotB sh fl item p:=a2.2 ⟨⟨d1,ab⟩,d3,d4,d5,d6⟩;clear b1 a2;refine PN ?_;intros;refine GPW.cr (sT (z:=mp) (x:=x.ret) p.1) ?_;have b7:=a4.ok p.1;have a9:=a4.cap p.1;have g1:=a4.len p.1;have a7:=fun (h:¬ ∃y∈(uOf mp x.ret p.1).lots,¬apart y p) (ys:LL) (hy:gV hdC ((uOf mp x.ret p.1).lots++[p]) ys) (s' : Stk) (h1:s'.lots=zset ys) (h2:(zset ys).length≤s'.cap)=>wR (g':=uOf (gins mp p.1 s') x.ret) a4 b2 a5 h hy (by rw[kC,if_pos rfl,h1]) (by rw[kC,if_pos rfl];exact h2) (fun f e=>by rw[kC,if_neg e]);have b5:=fun M:LH=>qN (z:=mp) (x:=x.ret) p.1 (L:=M);generalize uOf mp x.ret p.1=sk at *;obtain⟨sad,scap,a0⟩:=sk;dsimp only at b7 a9 g1 a7 b0
 have e3:∀y∈a0++[p],LotOk y:=fun y hy=>by
  rcases List.mem_append.1 hy with q|q
  ·exact b7.ok y q
  ·rw[List.mem_singleton.1 q];exact a5
 simp only[Stk.v];refine PN ?_;intros;rename_i b6 b8 bl;refine GO.ent (L':=[isl aG 3 (some ⟨bl,0,none⟩) [p],isl aG 3 sad a0]++(isl aG 3 sad a0::chgL b bc s { z with ret:=mp } (ledL b sh x (obj b6 tLot (aG p)::obj b3 tMv [ac frm,ac to,ac item,ac mn,ag pad parts.length pcap]::L)))) ?_ ?_
 ·refine(Ent.at (A:=obj bl tLot [ac p.1,ac p.2.1,ac p.2.2]) (Ent.f7 (enc:=aG) (sz:=3) (xs:=[p]) (n:=1) rfl rfl (fun _ _=>rfl) ae)).trans (Ent.freezeSl.trans ?_);refine(Ent.at (A:=allP (fun p:Int×Stk=>stkP p.2) mp) (Ent.refl _)).trans ?_;refine(Ent.a8 (Ent.at (A:=allP (fun p:Int×Stk=>stkP p.2) x.ret) (Ent.refl _))).trans ?_;refine(b5 _).trans ?_;refine Ent.trans (show Ent (stkP ⟨sad,scap,a0⟩::_) (isl aG 3 sad a0::_) from Ent.refl _) ?_;refine(Ent.dup (bO _ _ _ _).pers).trans ?_;simp only[chgL,ck,ledL,bW,aG,al,ak];exact ah
 simp only[al,ak];(first|refine GO.ef (Ef.call (qC (some ⟨bl,0,none⟩) 1 [p] sad scap a0 (by rw[aI];decide) ab (fun y hy=>by rw[List.mem_singleton.1 hy];exact a5) b7) rfl dd) ae ?_);rintro _ _⟨_,⟨g2,g4,g3,g5,rfl,rfl⟩,hL⟩;simp only[al,ak] at hL;subst hL;have c5:=Br b7 a5;generalize hpi:(pcI [p] a0).length=pn at c5;refine PN ?_;intros;by_cases c3:∃y∈a0,¬apart y p
 ·have f4:=c5.2 c3;rw[if_neg (fun q=>q.2 (b0.1 c3))] at hg;rw[hg] at f2 ⊢;(try simp only[chgL,ck,ledL,bW]);refine PN ?_;intros;exact KX.a8 aA (by(try simp only[chgL,ck,ledL,bW]);exact ah) ⟨mp,rfl,fun h=>absurd h ae,rfl⟩
 have f4:¬0<pn:=fun q=>c3 (c5.1 q);rw[if_pos ⟨cg,fun q=>c3 (b0.2 q)⟩] at hg;repeat first|refine G.sn 14 ?_|refine dq ?_|intro _|refine bS ?_
 refine G.ent (L':=asl aG 3 tLot sad a0.length a0::obj b6 tLot [ac p.1,ac p.2.1,ac p.2.2]::chgL b bc s { z with ret:=mp } (ledL b sh x (obj b3 tMv [ac frm,ac to,ac item,ac mn,ag pad parts.length pcap]::L))) ?_ ?_
 ·refine(Ent.at (A:=isl aG 3 sad a0) (Ent.m5 (E:=tLot) (by simp only[maxLen];omega))).trans ?_;(try simp only[chgL,ck,ledL,bW,aG]);exact ah
 ·skip;simp only[chgL,ck,ledL,bW];refine G.d9 mixed krStd0 ?_;refine GF.evP (i:=0) rfl krStd0 (Ev.move rfl) ae ?_;refine GF.evP (i:=1) rfl krStd0 (Ev.nilCheck rfl) ae ?_;refine GF.evP (i:=2) rfl krStd0 (by first|exact Ev.fieldAddr rfl|exact Ev.f8 rfl) ae ?_;refine GF.evL (i:=3) rfl krStd0 (by first|exact Ev.c8 rfl rfl|exact Ev.d7 rfl aQ|exact Ev.c9 rfl rfl|exact Ev.d8 rfl ab|exact Ev.f7 rfl ab ae rfl) ae ?_;refine GF.evP (i:=4) rfl krStd0 (by first|exact Ev.fieldAddr rfl|exact Ev.f8 rfl) ae ?_;refine GF.evL (i:=5) rfl krStd0 (by first|exact Ev.c8 rfl rfl|exact Ev.d7 rfl aQ|exact Ev.c9 rfl rfl|exact Ev.d8 rfl ab|exact Ev.f7 rfl ab ae rfl) ae ?_;refine GF.evP (i:=6) rfl krStd0 (Ev.move rfl) ae ?_;refine GF.evL (i:=8) rfl krStd0 (by first|exact Ev.c8 rfl rfl|exact Ev.d7 rfl aQ|exact Ev.c9 rfl rfl|exact Ev.d8 rfl ab|exact Ev.f7 rfl ab ae rfl) ae ?_;refine GF.a8 7 9 krStd0 ?_ ?_
  ·refine GE.ef rfl (Ef.d9 (lj sad a0.length scap a9) rfl) ae ?_;rintro _ _⟨rfl,rfl⟩;refine⟨(by intro pe hp;simp only[dJ,ay,or_false] at hp;rcases hp with rfl|rfl|rfl<;>first|exact Ev.c8 rfl rfl|exact Ev.d7 rfl aQ|exact Ev.c9 rfl rfl),?_⟩;refine GF.plan [.ef 9,.ef 10,.ef 11,.ef 12] krStd0 rfl ?_;refine PN ?_;intros;refine GPW.ef (Ef.j6 (enc:=aG) (e:=p) rfl rfl rfl rfl rfl aQ (eV _) ab ab) ae ?_;rintro _ _⟨c0,a6,rfl,rfl⟩;refine PN ?_;intros;refine GPW.ca (jf c0 (a0++[p]).length a6 (a0++[p]) rfl (by rw[aj,aI];omega) e3) ?_;rintro _ _⟨a3,a1,ys,rfl,c6,rfl⟩;refine PN ?_;intros;refine GPW.fct (kE (ad:=a3) (cap:=a1) (xs:=zset ys) (enc:=aG) (sz:=3) (E:=tLot)) ?_;rintro⟨c1,_⟩;refine GPW.efu (Ef.c9 (enc:=Stk.v) (e:=(⟨a3,a1,zset ys⟩:Stk)) rfl rfl rfl rfl) ?_;rintro _ _⟨rfl,rfl⟩;refine PN ?_;intros;refine⟨(i+1,gins mp p.1 ⟨a3,a1,zset ys⟩),⟨by dsimp only;omega,by dsimp only;rw[b9];exact a7 c3 ys c6 ⟨a3,a1,zset ys⟩ rfl c1,hg⟩,by dsimp only;omega,by dsimp only;rw[bh i];exact aC,?_⟩;refine(Ent.frz a3).trans ?_;refine(Ent.at (A:=allP (fun p:Int×Stk=>stkP p.2) mp) (Ent.refl _)).trans ?_;refine(Ent.at (A:=isl aG 3 a3 (zset ys)) (lx (s:=⟨a3,a1,zset ys⟩) (k:=p.1))).trans ?_;simp only[chgL,ck,ledL,bW];exact ah
  ·refine GE.ef rfl (Ef.lit rfl rfl ae rfl) ae ?_;rintro _ _⟨bm,rfl,rfl⟩;refine⟨(by intro pe hp;simp only[dJ,ay,or_false] at hp;rcases hp with rfl|rfl|rfl<;>first|exact Ev.c8 rfl rfl|exact Ev.d7 rfl aQ|exact Ev.c9 rfl rfl),?_⟩;refine GF.plan [.ef 7,.ef 10,.ef 11,.ef 12] krStd0 rfl ?_;refine PN ?_;intros;refine GPW.cr (lj sad a0.length scap a9) ?_;refine PN ?_;intros;refine GPW.ef (Ef.j6 (enc:=aG) (e:=p) rfl rfl rfl rfl rfl aQ (eV _) ab ab) ae ?_;rintro _ _⟨c0,a6,rfl,rfl⟩;refine PN ?_;intros;refine GPW.ca (jf c0 (a0++[p]).length a6 (a0++[p]) rfl (by rw[aj,aI];omega) e3) ?_;rintro _ _⟨a3,a1,ys,rfl,c6,rfl⟩;refine PN ?_;intros;refine GPW.fct (kE (ad:=a3) (cap:=a1) (xs:=zset ys) (enc:=aG) (sz:=3) (E:=tLot)) ?_;rintro⟨c1,_⟩;refine GPW.efu (Ef.c9 (enc:=Stk.v) (e:=(⟨a3,a1,zset ys⟩:Stk)) rfl rfl rfl rfl) ?_;rintro _ _⟨rfl,rfl⟩;refine PN ?_;intros;refine⟨(i+1,gins mp p.1 ⟨a3,a1,zset ys⟩),⟨by dsimp only;omega,by dsimp only;rw[b9];exact a7 c3 ys c6 ⟨a3,a1,zset ys⟩ rfl c1,hg⟩,by dsimp only;omega,by dsimp only;rw[bh i];exact aC,?_⟩;refine(Ent.frz a3).trans ?_;refine(Ent.at (A:=allP (fun p:Int×Stk=>stkP p.2) mp) (Ent.refl _)).trans ?_;refine(Ent.at (A:=isl aG 3 a3 (zset ys)) (lx (s:=⟨a3,a1,zset ys⟩) (k:=p.1))).trans ?_;simp only[chgL,ck,ledL,bW];exact ah
def yl{sh:Int}{fl fw:List FlM}(h:∀f∈fw,f.to≠0)(item:Int)(p:Lot):gotB sh (fl++fw) item p↔gotB sh fl item p:=by
 unfold gotB;by_cases c:p.1 - sh*4294967296<fl.length∧0≤p.1 - sh*4294967296
 ·obtain⟨c1,c0⟩:=c
  have e:(fl++fw)[(p.1 - sh*4294967296).toNat]! = fl[(p.1 - sh*4294967296).toNat]!:=by
   rw[getElem!_of (by rw[aj];omega),getElem!_of ab,dw]
  rw[e,aj];exact⟨fun q=>⟨⟨c0,c1⟩,q.2⟩,fun q=>⟨⟨c0,ab⟩,q.2⟩⟩
 ·constructor
  ·rintro⟨⟨q0,q1⟩,q2,_⟩;rw[aj] at q1;have hk:(p.1 - sh*4294967296).toNat<(fl++fw).length:=by rw[aj];omega
   have hm:(fl++fw)[(p.1 - sh*4294967296).toNat]!∈fw:=by
    rw[getElem!_of hk,cM ab];exact bR _
   exact absurd q2 (h _ hm)
  ·rintro⟨⟨q0,q1⟩,_⟩;exact absurd ⟨q1,q0⟩ c
def wY{sh:Int}{fl fw:List FlM}(h:∀f∈fw,f.to≠0)(item:Int):∀(ps l:LL),retG sh (fl++fw) item ps l=retG sh fl item ps l
 | [],_=>rfl
 | p::ps,l=>by
  rw[nr,nr,wY h item ps];by_cases c:gotB sh fl item p∧¬ ∃y∈ofF l p.1,ovP p y
  ·rw[if_pos c,if_pos ⟨(yl h item p).2 c.1,c.2⟩]
  ·rw[if_neg c,if_neg (fun q=>c ⟨(yl h item p).1 q.1,q.2⟩)]
abbrev zT:=XD [.ev 10]
abbrev zS:=XD []
def Ql{φ ψ:Prop}(k:ψ)(h:Hid ψ→φ:=by intro k;(repeat (first|refine aa ?_|intro zzz|refine G.dr 33 2 zT ?_|refine G.dr 33 5 zS ?_));(repeat revert zzz);exact Hid.out k):φ:=h ⟨k⟩
def rp{L R1 R2 R3 R4:LH}{b bc:Nat}{sh:Int}{x:LedX}{s:StV}{z:ChG}[a0:PickObj L b tLed (bW sh x) R1][a1:PickObj L bc tCh (ck b s z) R2][a2:PickG L z.cs (Int×Int) Stk kvP Stk.v z.stk R3][a3:PickG L x.ms (Int×Int) Stk kvP Stk.v x.stk R4](a i:Int) :
  Tri Tryz.prog 194 #[ax bc,ac a,ac i] L (rtQ ((uOf z.stk x.stk (a,i)).v) L):=by
 refine Tri.bd ?_;refine Ql ?_;intros;refine GPW.evL (Ev.a8 rfl rfl) ae ?_;cases h:@List.lookup _ _ instBEqOfDecidableEq (a,i) z.stk with
 | some k =>
  simp only[eK,Option.getD_some,Option.isSome_some];refine Ql ?_;intros;refine KX.a8 aA ah ⟨?_,rfl⟩;unfold uOf glk;rw[h];rfl
 | none =>
  simp only[fj,fg,Option.isSome_none];refine Ql ?_;intros;refine GPW.evL (Ev.f9 rfl rfl) ae ?_;rw[ui];refine Ql ?_;intros;refine KX.a8 aA ah ⟨?_,rfl⟩;unfold uOf glk;rw[h];rfl
structure WdG (x:LedX) (z:ChG) (m:MvM):Prop where
 item:0≤m.item∧m.item<x.cat.items.length
 n:0≤m.n∧m.n≤1099511627776
 pv:eQ m.parts
 pa:Apart m.parts
 sv:eQ (uOf z.stk x.stk (m.frm,m.item)).lots
 sa:Apart (uOf z.stk x.stk (m.frm,m.item)).lots
def lD(own:LL)(m:MvM):Prop:=if m.parts=[] then lsum own<m.n else ¬ic m.parts own
def sP(mixed:Bool)(own:LL)(m:MvM):LL:=if m.parts=[] then mP mixed own m.n else m.parts
def wx(mixed:Bool)(own:LL)(m:MvM):LL:=if m.parts=[] then kZ mixed own m.n else gX own m.parts
abbrev zR:=XE [.ev 13,.ev 14,.ev 15,.ef 16,.ev 17,.ev 18,.ev 19,.ev 20,.ev 21,.ev 22,.ev 23]
abbrev zQ:=XB [.ef 6]
abbrev xu:=XC [.ef 8,.ef 9]
def Qp{φ ψ:Prop}(k:ψ)(h:Hid ψ→φ:=by intro k;(repeat (first|refine aa ?_|intro zzz|refine G.dr 73 4 zR ?_|refine G.dr 73 7 zQ ?_|refine G.dr 73 11 xu ?_));(repeat revert zzz);exact Hid.out k):φ:=h ⟨k⟩
def uf{L:LH}(b bc:Nat)(sh:Int)(x:LedX)(s:StV)(z:ChG)(m:MvV)(h:WdG x z m.m)(hT:TakeC (cU x m.m.item))(b8:x.cat.items.length≤64) :
  Tri Tryz.prog 275 #[ax bc,aU (cj m)] (isl aG 3 m.pad m.m.parts::chgL b bc s z (ledL b sh x L)) (fun v L' =>
   (lD (uOf z.stk x.stk (m.m.frm,m.m.item)).lots m.m∧v=.tuple #[ag none 0 0,ac 10]∧L' = chgL b bc s z (ledL b sh x L)) ∨
   (¬lD (uOf z.stk x.stk (m.m.frm,m.m.item)).lots m.m∧∃pad pcap sk,v=.tuple #[ag pad (sP (cU x m.m.item) (uOf z.stk x.stk (m.m.frm,m.m.item)).lots m.m).length pcap,ac 0]∧sk.lots=wx (cU x m.m.item) (uOf z.stk x.stk (m.m.frm,m.m.item)).lots m.m ∧
    L' = isl aG 3 pad (sP (cU x m.m.item) (uOf z.stk x.stk (m.m.frm,m.m.item)).lots m.m)::chgL b bc s { z with stk:=gins z.stk (m.m.frm,m.m.item) sk } (ledL b sh x L))):=by
 obtain⟨⟨b4,b5⟩,⟨b1,b2⟩,a7,a9,a4,b0⟩:=h;have b6:=a7.2;obtain⟨⟨frm,to,item,mn,parts⟩,a1,a2⟩:=m;dsimp only at b4 b5 b1 b2 a7 a9 a4 b0 b6 hT ⊢;refine Tri.bd (args:=[ax bc,aU (cj ⟨⟨frm,to,item,mn,parts⟩,a1,a2⟩)]) ?_;refine G.ent (L':=stkP (uOf z.stk x.stk (frm,item))::isl dL 7 x.cat.iad x.cat.items::isl aG 3 a1 parts::chgL b bc s z (ledL b sh x L)) ?_ ?_
 ·simp only[chgL,ledL];refine(Ent.at (A:=catP x.cat) Hy).trans ?_;refine(Ent.at (A:=allP (fun p:(Int×Int)×Stk=>stkP p.2) z.stk) (Ent.refl _)).trans ?_;refine(Ent.a8 (Ent.at (A:=allP (fun p:(Int×Int)×Stk=>stkP p.2) x.stk) (Ent.refl _))).trans ?_;refine(qN (frm,item)).trans ?_;exact ah
 simp only[chgL,ledL,cj];refine Qp ?_;intros;rename_i b3;refine GO.cr (rp (b:=b) (sh:=sh) (x:=x) (s:=s) (z:=z) frm item) ?_;generalize hsk:uOf z.stk x.stk (frm,item)=sk at *;obtain⟨sad,scap,a0⟩:=sk;dsimp only at a4 b0 ⊢;have b7:=a4.2;simp only[Stk.v];by_cases hp:parts.length=0
 ·have a6:parts=[]:=aZ hp;subst a6;have eB:lD a0 ⟨frm,to,item,mn,[]⟩↔lsum a0<mn:=by unfold lD;rw[if_pos rfl]
  have eP:sP (cU x item) a0 ⟨frm,to,item,mn,[]⟩=mP (cU x item) a0 mn:=if_pos rfl;have eL:wx (cU x item) a0 ⟨frm,to,item,mn,[]⟩=kZ (cU x item) a0 mn:=if_pos rfl;rw[eB,eP,eL];refine Qp ?_;intros;refine GPW.ent (Ent.at (A:=stkP ⟨sad,scap,a0⟩) (Ent.refl _)) ?_;refine GPW.ca (hT.tri _ sad scap a0 mn b7 a4.1 b1 b2) ?_;rintro _ _ (⟨h1,rfl,rfl⟩|⟨h1,a5,c1,a3,c2,rfl,rfl⟩)
  ·refine Qp ?_;intros;exact KX.en (.inl ⟨h1,rfl,rfl⟩)
  ·refine Qp ?_;intros;refine GPW.efu (Ef.c9 (enc:=Stk.v) (e:=(⟨a3,c2,kZ (cU x item) a0 mn⟩:Stk)) rfl rfl rfl rfl) ?_;rintro _ _ rfl;refine Qp ?_;intros;refine KX.a8 aA ?_ (.inr ⟨ab,a5,c1,⟨a3,c2,kZ (cU x item) a0 mn⟩,rfl,rfl,rfl⟩);refine(Ent.frz a5).trans ((Ent.frz a3).trans ?_);refine(Ent.at (A:=allP (fun p:(Int×Int)×Stk=>stkP p.2) z.stk) (Ent.refl _)).trans ?_;refine(Ent.at (A:=stkP ⟨a3,c2,kZ (cU x item) a0 mn⟩) (lx (k:=(frm,item)))).trans ?_;exact ah
 have a6:¬parts=[]:=fun q=>hp (by rw[q];rfl);have eB:lD a0 ⟨frm,to,item,mn,parts⟩↔¬ic parts a0:=by unfold lD;rw[if_neg a6]
 have eP:sP (cU x item) a0 ⟨frm,to,item,mn,parts⟩=parts:=if_neg a6;have eL:wx (cU x item) a0 ⟨frm,to,item,mn,parts⟩=gX a0 parts:=if_neg a6;rw[eB,eP,eL];refine Qp ?_;intros;refine GO.ent ((Ent.at (A:=isl aG 3 a1 parts) (Ent.dup (bO _ _ _ _).pers)).trans ((Ent.at (A:=stkP ⟨sad,scap,a0⟩) (Ent.dup (bO aG 3 sad a0).pers)).trans (Ent.at (A:=isl aG 3 a1 parts) (Ent.refl _)))) ?_;refine GO.cr (qm a1 a2 parts sad scap a0 a7 a9 a4 b0) ?_;by_cases hw:ic parts a0
 case neg =>
  rw[aW hw];refine Qp ?_;intros;exact KX.en (.inl ⟨hw,rfl,rfl⟩)
 rw[bE hw];refine Qp ?_;intros;refine GPW.ca (vS sad scap a0 a1 a2 parts a7 a9 a4) ?_;rintro _ _⟨a3,c2,rfl,rfl⟩;refine Qp ?_;intros;refine GPW.efu (Ef.c9 (enc:=Stk.v) (e:=(⟨a3,c2,gX a0 parts⟩:Stk)) rfl rfl rfl rfl) ?_;rintro _ _ rfl;refine Qp ?_;intros;refine GO.ca (iv a1 parts.length a2 parts rfl ab) ?_;rintro _ _⟨a5,c1,rfl,rfl⟩;refine Qp ?_;intros;refine KX.a8 aA ?_ (.inr ⟨fun q=>q hw,a5,c1,⟨a3,c2,gX a0 parts⟩,rfl,rfl,rfl⟩);refine(Ent.frz a5).trans ((Ent.frz a3).trans ?_);refine(Ent.at (A:=allP (fun p:(Int×Int)×Stk=>stkP p.2) z.stk) (Ent.refl _)).trans ?_;refine(Ent.at (A:=isl aG 3 a3 (gX a0 parts)) (lx (s:=⟨a3,c2,gX a0 parts⟩) (k:=(frm,item)))).trans ?_;exact ah
