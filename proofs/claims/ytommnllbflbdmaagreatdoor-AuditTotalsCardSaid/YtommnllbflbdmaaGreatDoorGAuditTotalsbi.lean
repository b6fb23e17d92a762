/- Lemmas and contracts of functions. -/
import Derived.Test.YtommnllbflbdmaaGreatDoorSAuditTotalsJ10
import Derived.Test.YtommnllbflbdmaaGreatDoorSAuditTotalsV20
import Derived.Defers
import Derived.Recover
set_option linter.all false
set_option maxHeartbeats 4000000
namespace Go.Proofs.YtommnllbflbdmaaGreatDoor
open Go.V
attribute [local irreducible] G GO GP GPW GPK Ev Ef EfR Ent CB GB V.Enters
def mvK:List MvM→Nat
 | []=>0
 | m::ms=>(m.parts.length+1)+mvK ms
theorem li:∀ (a b:List MvM),mvK (a++b)=mvK a+mvK b
 | [],b=>by show mvK b=0+mvK b;omega
 | m::a,b=>by
  have:=li a b
  show (m.parts.length+1)+mvK (a++b)=(m.parts.length+1)+mvK a+mvK b
  omega
theorem vn {ms:List MvM} {i:Nat} (h:i<ms.length):mvK (ms.take (i+1))=mvK (ms.take i)+(ms[i]!.parts.length+1):=by
 rw [ay h,li,getElem!_of h]
 rfl
theorem BL (ms:List MvM) (i:Nat):mvK (ms.take i)≤mvK ms:=by
 have h:=li (ms.take i) (ms.drop i)
 rw [dT] at h
 omega
def dL (sh:Int) (fl:List FlM) (mix:Int→Bool) (s:StM) (W:Wk):List MvM→Int×Wk
 | []=>(0,W)
 | m::ms=>if (dw sh fl mix s W m).1=0 then dL sh fl mix s (dw sh fl mix s W m).2 ms else ((dw sh fl mix s W m).1,W)
noncomputable def gTry (S:LedM) (s:StM):Int×Wk :=
 if 65536≤S.steps.length then (4,wk0 S)
 else if ¬fm S.cat S.now s then (1,wk0 S)
 else dL S.shard S.flows (bC S.cat) (s.at (aK S)) (wk0 S) s.moves
noncomputable def gw (S:LedM) (s:StM):LedM:={ S with stk:=(gTry S s).2.stk,tot:=(gTry S s).2.tot,steps:=S.steps++[s.at (aK S)],flows:=S.flows++(gTry S s).2.flows }
noncomputable def dd (S:LedM) (s:StM):LedM:=if (gTry S s).1=0 then gw S s else S
noncomputable def gRes (S:LedM) (s:StM):Int:=if (gTry S s).1=0 then aK S else 0
structure LedG (k:Nat) (S:LedM):Prop where
 shard:0≤S.shard∧S.shard<12
 steps:S.steps.length≤65536
 flows:S.flows.length≤64*S.steps.length
 stk:∀ a i,StkG k (S.shard*4294967296+S.flows.length) (S.stk a i)
 tot:∀ i,-((S.flows.length:Int)*1099511627776)≤S.tot i∧S.tot i≤1099511627776
 fl:FlG S.flows
theorem zb {k:Nat} {S:LedM} (h:LedG k S):WkG S.shard S.flows (k+mvK ([]:List MvM)) (wk0 S):=by
 have e:cC S.shard S.flows.length (wk0 S)=S.shard*4294967296+S.flows.length:=by
  show S.shard*4294967296+(S.flows.length:Int)+((0:Nat):Int)=_
  omega
 refine ⟨fun a i=>by rw [e];exact h.stk a i,fun i=>?_,aw _,fun f hf=>by cases hf⟩
 have:=h.tot i
 show -(((S.flows.length:Int)+((0:Nat):Int))*1099511627776)≤S.tot i∧S.tot i≤1099511627776
 omega
theorem tc {sh:Int} {fl:List FlM} {mix:Int→Bool} {s:StM} (hsh:0≤sh):∀ {ms:List MvM} {W:Wk} {k:Nat},WkG sh fl k W→(∀ m∈ms,MvG m)→k+mvK ms≤2000→(dL sh fl mix s W ms).1=0→WkG sh fl (k+mvK ms) (dL sh fl mix s W ms).2∧(dL sh fl mix s W ms).2.flows.length=W.flows.length+ms.length
 | [],_,_,h,_,_,_=>⟨h,rfl⟩
 | m::ms,W,k,h,hm,hk,he=>by
  have e:dL sh fl mix s W (m::ms)=if (dw sh fl mix s W m).1=0 then dL sh fl mix s (dw sh fl mix s W m).2 ms else ((dw sh fl mix s W m).1,W):=rfl
  have ek:mvK (m::ms)=(m.parts.length+1)+mvK ms:=rfl
  rw [e] at he ⊢
  by_cases h1:(dw sh fl mix s W m).1=0
  ·rw [if_pos h1] at he ⊢
   obtain ⟨g1,g2⟩:=qr hsh h (hm m ap) ab h1
   obtain ⟨i1,i2⟩:=tc hsh (ms:=ms) g1 (fun x hx=>hm x (ao _ hx)) ab he
   refine ⟨by rw [ek,← dg,← dg];exact i1,?_⟩
   rw [i2,g2,ax,aT,bj]
   omega
  ·rw [if_neg h1] at he
   exact absurd he h1
theorem pM {sh:Int} {fl:List FlM} {mix:Int→Bool} {s:StM}:∀ (ms:List MvM) (W:Wk),(∀ f∈W.flows,f.step=s.id)→∀ f∈(dL sh fl mix s W ms).2.flows,f.step=s.id
 | [],_,h=>h
 | m::ms,W,h=>by
  have e:dL sh fl mix s W (m::ms)=if (dw sh fl mix s W m).1=0 then dL sh fl mix s (dw sh fl mix s W m).2 ms else ((dw sh fl mix s W m).1,W):=rfl
  rw [e]
  split
  ·refine pM ms _ ?_
   have hn:∀ f∈W.flows++[fC sh fl.length mix s W m],f.step=s.id:=fun f hf=>by
    rcases List.mem_append.1 hf with h1|h1
    ·exact h f h1
    ·rw [List.mem_singleton.1 h1];rfl
   unfold dw
   split
   ·exact h
   ·split
    ·exact h
    ·split
     ·exact hn
     ·split
      ·exact h
      ·exact hn
  ·exact h
theorem Ck {S:LedM} {s:StM}:∀ f∈(gTry S s).2.flows,f.step=aK S:=by
 unfold gTry
 split
 ·intro f hf;cases hf
 ·split
  ·intro f hf;cases hf
  ·exact pM (s:=s.at (aK S)) s.moves (wk0 S) (fun f hf=>by cases hf)
theorem Az {S:LedM} {s:StM}:aK (gw S s)=aK S+1:=by
 unfold aK gw
 simp only [ax,bj,bZ]
 omega
theorem Ch {S:LedM} {s:StM} (hp:fm S.cat S.now s) (h0:0≤S.now):0≤(gw S s).now:=by
 unfold LedM.now gw
 simp only [List.getLast?_append,List.getLast?_singleton]
 have:=hp.2.2.1
 show 0≤s.tick
 omega
theorem De {c:CatM} {now:Int} {s:StM} (h:fm c now s):∀ m∈s.moves,MvG m:=fun m hm=>by
 have hfit:=h.2.2.2.2.1 m hm
 refine ⟨hfit.1.2.1,hfit.1.2.2.1,?_⟩
 have h3:=hfit.2
 split at h3
 ·exact .inr h3
 ·exact .inl (aQ h3)
theorem EF {k:Nat} {S:LedM} {s:StM} (h:LedG k S) (hk:k+mvK s.moves≤2000):LedG (k+mvK s.moves) (dd S s):=by
 unfold dd
 by_cases he:(gTry S s).1=0
 case neg =>
  rw [if_neg he]
  exact ⟨h.shard,h.steps,h.flows,fun a i=>(h.stk a i).mono ab (aW _),h.tot,h.fl⟩
 rw [if_pos he]
 have hsl:=h.steps
 have hfl:=h.flows
 by_cases h1:65536≤S.steps.length
 ·have e:gTry S s=(4,wk0 S):=by unfold gTry;rw [if_pos h1]
  rw [e] at he
  exact absurd (show (4:Int)=0 from he) ac
 by_cases h2:fm S.cat S.now s
 case neg =>
  have e:gTry S s=(1,wk0 S):=by unfold gTry;rw [if_neg h1,if_pos h2]
  rw [e] at he
  exact absurd (show (1:Int)=0 from he) ac
 have e:gTry S s=dL S.shard S.flows (bC S.cat) (s.at (aK S)) (wk0 S) s.moves:=by unfold gTry;rw [if_neg h1,if_neg (fun q=>q h2)]
 have hl64:=h2.2.2.2.1
 rw [e] at he
 obtain ⟨g1,g2⟩:=tc h.shard.1 (zb h) (De h2) (by show k+0+_≤_;omega) he
 unfold gw
 rw [e]
 have e0:(wk0 S).flows.length=0:=rfl
 rw [e0,cD] at g2
 have hid:cC S.shard S.flows.length (dL S.shard S.flows (bC S.cat) (s.at (aK S)) (wk0 S) s.moves).2=S.shard*4294967296+((S.flows++(dL S.shard S.flows (bC S.cat) (s.at (aK S)) (wk0 S) s.moves).2.flows).length:Int):=by
  unfold cC
  rw [ax]
  omega
 refine ⟨h.shard,?_,?_,fun a i=>?_,fun i=>?_,fun f hf=>?_⟩
 ·show (S.steps++[_]).length≤_
  rw [ax,aT]
  omega
 ·show (S.flows++_).length≤64*(S.steps++[_]).length
  rw [ax,ax,aT,g2]
  omega
 ·dsimp only
  rw [← hid]
  exact g1.stk a i
 ·have:=g1.tot i
  dsimp only
  rw [ax]
  omega
 ·rcases List.mem_append.1 (show f∈S.flows++_ from hf) with q|q
  ·exact h.fl f q
  ·exact g1.flows f q
structure StInG (s:StV):Prop where
 len:s.moves.length≤1000000
 rule:I64 s.rule
 parts:∀ m∈s.moves,m.m.parts.length≤9223372036854775807
 cap:∀ m∈s.moves,m.m.parts.length≤m.pcap
 bd:∀ m∈s.moves,∀ p∈m.m.parts,p.1≤9223372036854775807
abbrev xk:List Stp:=[.ev 0,.ev 1,.ev 2,.ev 3,.ev 4,.ev 5,.ev 6,.ef 7,.ev 8]
abbrev xj:List Stp:=[.ev 0,.ev 1,.ev 2,.ev 3,.ev 4,.ev 5,.ev 6,.ev 7,.ev 8,.ev 9,.ev 10,.ev 11,.ef 12]
abbrev xi:List Stp:=[.ev 0,.ev 1,.ev 2,.ev 3,.ev 4,.ev 5,.ef 6,.ef 7,.ev 8,.ev 9,.ef 10]
theorem ed {φ ψ:Prop} (k:ψ) (h:Hid ψ→φ:=by intro k;(with_reducible apply G.d8);first|refine G.d7 (N:=79) (id:=10) xk mixed an (Hid.out k)|refine G.d7 (N:=79) (id:=15) xj mixed an (Hid.out k)|refine G.d7 (N:=79) (id:=16) xi mixed an (Hid.out k)):φ:=h ⟨k⟩
theorem wB {L:List HP} (b:Nat) (S:LedM) (k:Nat) (hS:LedG k S) (hc:S.cat.Ok) (hg:CatGood S.cat) (s:StV) (hs:StInG s) (hk:k+mvK s.m.moves≤2000) (x:RLX) (hF:RF S x) :
  Tri Tryz.prog 38 #[.pointer (some ⟨b,0,none⟩),.agg (aB s).toArray] (rlL b S.shard x (stM s::stP s::L)) (fun v L'=>v=.tuple #[.int .i64 (gRes S s.m),.int .i64 (gTry S s.m).1]∧∃ x',RF (dd S s.m) x'∧((gTry S s.m).1=0→x'.steps=x.steps++[s.at (aK S)])∧((gTry S s.m).1≠0→x'.steps=x.steps)∧L' = rlL b S.shard x' (stM s::stP s::L)):=by
 obtain ⟨hsh1,hsh2⟩:=hS.shard
 have hsl:=hS.steps
 have hfl:=hS.flows
 have hml:=hs.len
 refine Tri.body (args:=[.pointer (some ⟨b,0,none⟩),.agg (aB s).toArray]) 79 en38 Tryz.func38 rfl rfl rfl (by simp) ?_
 simp only [rlL]
 have hxs:x.steps.length=S.steps.length:=by rw [← hF.steps];simp
 have hxf:x.flows.length=S.flows.length:=by rw [← hF.flows];simp
 have hxl:=hF.len
 have hcm:=hF.cat
 have hnow:=Ep hF
 have hn0:=hF.now
 have hid:S.shard*4294967296+(x.steps.length:Int)=aK S:=by unfold aK;rw [hxs]
 by_cases h1:65536≤S.steps.length
 ·have e:gTry S s.m=(4,wk0 S):=by unfold gTry;rw [if_pos h1]
  have e1:dd S s.m=S:=if_neg (by rw [e];dsimp only;omega)
  have e2:gRes S s.m=0:=if_neg (by rw [e];dsimp only;omega)
  rw [e1,e2,e]
  repeat first|refine aa ?_|intro _|refine ed ?_
  exact KX.d7 ag ae ⟨rfl,x,hF,fun q=>absurd (show (4:Int)=0 from q) ac,fun _=>rfl,rfl⟩
 repeat first|refine aa ?_|intro _|refine ed ?_
 rename_i b3
 refine GO.ent (L':=catP x.cat::stP s::rlL b S.shard x (obj b3 aU (aB s)::stM s::stP s::L)) ?_ ?_
 ·refine (Ent.at (A:=catP x.cat) (Ent.dup (lL x.cat).1)).trans ?_
  refine (Ent.at (A:=stP s) (Ent.dup (gF _ _))).trans ?_
  simp only [rlL]
  exact ae
 simp only [rlL]
 refine GO.ef (Ef.d7 (wC (b:=b) (sh:=S.shard) (x:=x) s (hcm▸hg) (hcm▸hc) hF.catB ab hml hs.parts hs.rule) rfl) ac ?_
 rintro _ _ ⟨rfl,rfl⟩
 rw [hcm,hnow]
 by_cases h2:fm S.cat S.now s.m
 case neg =>
  have e:gTry S s.m=(1,wk0 S):=by unfold gTry;rw [if_neg h1,if_pos h2]
  have e1:dd S s.m=S:=if_neg (by rw [e];dsimp only;omega)
  have e2:gRes S s.m=0:=if_neg (by rw [e];dsimp only;omega)
  rw [e1,e2,e,aC h2]
  repeat first|refine aa ?_|intro _|refine ed ?_
  exact KX.d7 ag ae ⟨rfl,x,hF,fun q=>absurd (show (1:Int)=0 from q) ac,fun _=>rfl,rfl⟩
 have e:gTry S s.m=dL S.shard S.flows (bC S.cat) (s.m.at (aK S)) (wk0 S) s.m.moves:=by unfold gTry;rw [if_neg h1,if_neg (fun h=>h h2)]
 rw [aL h2]
 have hl64:s.moves.length≤64:=by have:=h2.2.2.2.1.2;simpa [StV.m] using this
 repeat first|refine aa ?_|intro _|refine ed ?_
 refine GO.ent (L':=rlL b S.shard x (obj b3 aU (aB s)::stM s::stP s::L)) (by simp only [rlL];exact ae) ?_
 refine GO.ef (Ef.d7 (wF b S.shard x ab ab ab) rfl) ac ?_
 rintro _ _ ⟨bw,xw,rfl,⟨w1,w2,w3,w4⟩,rfl⟩
 rw [w2,w3]
 have hsunk0:fW (aK S) x.flows=[]:=Bh (fun f hf=>hF.fstep _ (by rw [← hF.flows];exact alStd0List_mem_map_of_mem hf))
 have hR0:RW S x (wk0 S):=⟨hF.cat,hF.catB,hF.steps,by rw [hF.flows];exact (aV _).symm,hF.lots,hF.sum,hF.ok,hF.len,hF.dist,hsunk0⟩
 simp only [rlL,aJ]
 repeat first|refine aa ?_|intro _|refine ed ?_
 refine G.loop (α:=Nat×RLX×Wk) (fun g=>g.1≤s.moves.length∧RW S g.2.1 g.2.2∧WkG S.shard S.flows (k+mvK (s.m.moves.take g.1)) g.2.2∧g.2.2.flows.length=g.1∧(g.2.1.cat=x.cat∧g.2.1.steps=x.steps∧g.2.1.tad=x.tad∧g.2.1.tcap=x.tcap)∧dL S.shard S.flows (bC S.cat) (s.m.at (aK S)) (wk0 S) s.m.moves=dL S.shard S.flows (bC S.cat) (s.m.at (aK S)) g.2.2 (s.m.moves.drop g.1))
  (fun g=>[(0,.pointer (some ⟨b,0,none⟩)),(3,.pointer (some ⟨b3,0,none⟩)),(4,.int .i64 0),(5,.int .i64 0),(7,.pointer (some ⟨bw,0,none⟩)),(8,.int .i64 (g.1:Int))])
  (fun g=>obj bw tRL (aJ S.shard xw)::osl fS 3 tRS xw.sad xw.scap x.stks::osl bF 11 cq xw.fad xw.fcap x.flows::allP rsP x.stks::allP flP x.flows::rlL b S.shard g.2.1 (obj b3 aU (aB s)::stM s::stP s::L)) (fun g=>s.moves.length - g.1) (0,x,wk0 S) ⟨al _,hR0,zb hS,rfl,⟨rfl,rfl,rfl,rfl⟩,rfl⟩ ai ?_ ?_
 ·refine (Ent.at (A:=allP rsP x.stks) (Ent.dup (gF _ _))).trans ?_
  refine (Ent.at (A:=allP flP x.flows) (Ent.dup (gF _ _))).trans ?_
  simp only [rlL,aJ]
  exact ae
 rintro ⟨i,y,W⟩ ⟨hi,hR,hO,hWl,⟨y1,y2,y3,y4⟩,hmv⟩
 dsimp only at hi hR hO hWl y1 y2 y3 y4 hmv ⊢
 have hyf:y.flows.length=S.flows.length+W.flows.length:=by
  have:=congrArg List.length hR.flows
  rwa [aD,ax] at this
 have hys:y.steps.length=S.steps.length:=by rw [y2];exact hxs
 by_cases hlt:i<s.moves.length
 case neg =>
  have hdr:s.m.moves.drop i=[]:=aY (by show (s.moves.map MvV.m).length≤i;rw [aD];omega)
  rw [hdr] at hmv
  have e3:gTry S s.m=(0,W):=by rw [e,hmv];rfl
  have he:(gTry S s.m).1=0:=by rw [e3]
  have e1:dd S s.m=gw S s.m:=if_pos he
  have e2:gRes S s.m=aK S:=if_pos he
  have hid2:S.shard*4294967296+(y.steps.length:Int)=aK S:=by rw [y2];exact hid
  have hp2:(gw S s.m).flows=S.flows++W.flows:=by unfold gw;rw [e3]
  rw [e1,e2,he]
  have henc:([.int .i64 (S.shard*4294967296+(y.steps.length:Int)),.int .i64 s.kind,.int .i64 s.actor,.int .i64 s.tick,.int .i64 s.rule,.int .i64 s.times,.slice s.mad s.moves.length s.mcap]:List Value)=aB (s.at (aK S)):=by rw [← hid2];rfl
  simp only [rlL,aJ]
  repeat first|refine aa ?_|intro _|refine ed ?_
  refine GPW.ef (Ef.d8 (enc:=aB) (e:=s.at (aK S)) rfl rfl henc rfl rfl (by rfl) (henc▸iB _) ab ab) ac ?_
  rintro _ _ ⟨tad2,tcap2,rfl,rfl⟩
  repeat first|refine aa ?_|intro _|refine ed ?_
  rw [hid2]
  refine KX.d7 ag ?_ ⟨rfl,{ y with steps:=y.steps++[s.at (aK S)],tad:=tad2,tcap:=tcap2 },⟨hR.cat,hR.catB,?_,?_,?_,?_,hR.ok,hR.len,hR.dist,?_,Ch h2 ab⟩,fun _=>by dsimp only;rw [y2],fun q=>absurd rfl q,rfl⟩
  ·refine (Ent.at (A:=stM s) (Ent.dup (mV s).1)).trans ?_
   refine (Ent.d7 (Ent.at (A:=stP s) (Ent.dup (gF _ _)))).trans ?_
   refine Ent.trans (B:=stM s::stP s::allP aX y.steps::obj b tRL (aJ S.shard { y with steps:=y.steps++[s.at (aK S)],tad:=tad2,tcap:=tcap2 })::osl fS 3 tRS y.sad y.scap y.stks::osl bF 11 cq y.fad y.fcap y.flows::osl aB 7 aU tad2 tcap2 (y.steps++[s.at (aK S)])::catP y.cat::allP rsP y.stks::allP flP y.flows::stM s::stP s::L) ae ?_
   refine (Ent.e9 (mV s) (cA gZ)).trans ?_
   refine (mg (f:=aX) (e:=s.at (aK S)) ln).trans ?_
   simp only [rlL]
   exact ae
  ·show (y.steps++[s.at (aK S)]).map StV.m=S.steps++[s.m.at (aK S)]
   rw [aS,hR.steps]
   rfl
  ·show y.flows.map FlV.m=(gw S s.m).flows
   rw [hp2,hR.flows]
  ·intro a i
   show (df y.stks a i).lots=(gTry S s.m).2.stk a i
   rw [e3]
   exact hR.lots a i
  ·intro i
   show rsum y.stks i=(gTry S s.m).2.tot i
   rw [e3]
   exact hR.sum i
  ·intro f hf
   rw [Az]
   rcases List.mem_append.1 (show f∈S.flows++(gTry S s.m).2.flows from hf) with h3|h3
   ·have:=hF.fstep f h3
    omega
   ·have:=Ck f h3
    omega
 have hii:(i:Int).toNat=i:=av i
 have hlt' : (i:Int).toNat<s.moves.length:=ab
 have hgm:s.moves[i]!.m=s.m.moves[i]!:=(ez MvV.m hlt).symm
 have hlm:i<s.m.moves.length:=by show i<(s.moves.map MvV.m).length;rw [aD];exact hlt
 have hdr:s.m.moves.drop i=s.moves[i]!.m::s.m.moves.drop (i+1):=by rw [hgm];exact ew hlm
 have hfit:=h2.2.2.2.2.1 s.moves[i]!.m (by rw [hgm];exact aG hlm)
 have hbase:pj y.cat.items.length s.moves[i]!.m:=by
  have h3:=hfit.1
  rw [← hcm] at h3
  rw [y1]
  exact h3
 have hmg:MvG s.moves[i]!.m:=⟨hfit.1.2.1,hfit.1.2.2.1,by
  have h3:=hfit.2
  split at h3
  ·exact .inr h3
  ·exact .inl (aQ h3)⟩
 have hmem:=aG hlt
 have hkt:=vn hlm
 have hkl:=BL s.m.moves (i+1)
 rw [← hgm] at hkt
 rw [hdr] at hmv
 have hmv2:dL S.shard S.flows (bC S.cat) (s.m.at (aK S)) W (s.moves[i]!.m::s.m.moves.drop (i+1))=if (dw S.shard S.flows (bC S.cat) (s.m.at (aK S)) W s.moves[i]!.m).1=0 then dL S.shard S.flows (bC S.cat) (s.m.at (aK S)) (dw S.shard S.flows (bC S.cat) (s.m.at (aK S)) W s.moves[i]!.m).2 (s.m.moves.drop (i+1)) else ((dw S.shard S.flows (bC S.cat) (s.m.at (aK S)) W s.moves[i]!.m).1,W):=rfl
 rw [hmv2] at hmv
 have hmo:=qr (sh:=S.shard) (mix:=bC S.cat) (s:=s.m.at (aK S)) (m:=s.moves[i]!.m) hsh1 hO hmg ab
 have hspec:=wD (L:=obj bw tRL (aJ S.shard xw)::osl fS 3 tRS xw.sad xw.scap x.stks::osl bF 11 cq xw.fad xw.fcap x.flows::allP rsP x.stks::allP flP x.flows::obj b3 aU (aB s)::stM s::stP s::L) b S hS.shard hsl ab hS.fl y W (k+mvK (s.m.moves.take i)) s s.moves[i]! hR hO ab ab hbase hmg (hs.cap _ hmem) (hs.bd _ hmem)
 generalize dw S.shard S.flows (bC S.cat) (s.m.at (aK S)) W s.moves[i]!.m=r at *
 simp only [rlL,aJ]
 repeat first|refine aa ?_|intro _|refine ed ?_
 rw [hii]
 refine GPW.ent (L':=rlL b S.shard y (isl ah 3 s.moves[i]!.pad s.moves[i]!.m.parts::obj bw tRL (aJ S.shard xw)::osl fS 3 tRS xw.sad xw.scap x.stks::osl bF 11 cq xw.fad xw.fcap x.flows::allP rsP x.stks::allP flP x.flows::obj b3 aU (aB s)::stM s::stP s::L)) ((Ent.at (A:=stP s) (oW hlt)).trans (by simp only [rlL,aJ];exact ae)) ?_
 refine GPW.ef (Ef.d7 (hspec) rfl) ac ?_
 rintro _ _ ⟨y',rfl,⟨⟨z1,z2,z3,z4⟩,hz⟩,rfl⟩
 by_cases hr:r.1=0
 ·rw [if_pos hr] at hmv
  simp only [rlL,aJ]
  repeat first|refine aa ?_|intro _|refine ed ?_
  refine ⟨(i+1,y',r.2),⟨by dsimp only;omega,hz hr,(by dsimp only;rw [hkt,← dg,← dg];exact (hmo hr).1),(by dsimp only;rw [(hmo hr).2,ax,aT,hWl]),⟨z1.trans y1,z2.trans y2,z3.trans y3,z4.trans y4⟩,hmv⟩,by dsimp only;omega,?_,?_⟩
  ·dsimp only
   rw [aM i]
   exact ai
  ·simp only [rlL,aJ]
   exact ae
 ·rw [if_neg hr] at hmv
  have e3:gTry S s.m=(r.1,W):=by rw [e,hmv]
  have hne:¬(gTry S s.m).1=0:=by rw [e3];exact hr
  have e1:dd S s.m=S:=if_neg hne
  have e2:gRes S s.m=0:=if_neg hne
  rw [e1,e2,e3]
  dsimp only
  simp only [rlL,aJ]
  repeat first|refine aa ?_|intro _|refine ed ?_
  refine KX.d7 ag ?_ ⟨rfl,{ y' with stks:=x.stks,sad:=xw.sad,scap:=xw.scap,flows:=x.flows,fad:=xw.fad,fcap:=xw.fcap },⟨?_,?_,?_,hF.flows,hF.lots,hF.sum,hF.ok,hF.len,hF.dist,hF.fstep,hF.now⟩,fun q=>absurd q hr,fun _=>z2.trans y2,rfl⟩
  ·simp only [rlL,aJ]
   rw [show x.stks.length=xw.stks.length by rw [w2],show x.flows.length=xw.flows.length by rw [w3]]
   exact ae
  ·show y'.cat.m=_
   rw [z1,y1]
   exact hF.cat
  ·show y'.cat.B
   rw [z1,y1]
   exact hF.catB
  ·show y'.steps.map StV.m=_
   rw [z2,y2]
   exact hF.steps
end Go.Proofs.YtommnllbflbdmaaGreatDoor
namespace Go.V
section
section
variable {P:Program} {N:Nat} {env:Env} {L:List HP} {K:Post} {ty:TypeId}
theorem Enters.go {f:FuncId} (h:Enters P f) (args:Array Value) (w:World):(callFunc f args).run P w=.ok (.enter f args) w:=h args w
def EndR (θ:Th) (R:List HP) (pr:Value→List HP→Prop) (pp:List PanicEntry→List HP→Prop):Ending→World→Prop
 | .returned v,w=>∃ L',pr v L'∧Sat θ (L'++R) w
 | .panicked ch,w=>∃ L',pp ch L'∧Sat θ (L'++R) w
 | .outgrown,_=>False
structure TriE (P:Program) (f:FuncId) (args:Array Value) (L:List HP) (pr:Value→List HP→Prop) (pp:List PanicEntry→List HP→Prop):Prop where
 enters:Enters P f
 calls:∀ θ R w,Sat θ (L++R) w→Calls P f args w (EndR θ R pr pp)
theorem TriE.mono {f:FuncId} {args:Array Value} {pr pr' : Value→List HP→Prop} {pp pp' : List PanicEntry→List HP→Prop} (h:TriE P f args L pr pp) (h1:∀ v L,pr v L→pr' v L) (h2:∀ v L,pp v L→pp' v L):TriE P f args L pr' pp' :=
 ⟨h.enters,fun θ R w s=>(h.calls θ R w s).mono fun e w' he=>by
  cases e with
  | returned v=>obtain ⟨L',a,b⟩:=he;exact ⟨L',h1 _ _ a,b⟩
  | panicked v=>obtain ⟨L',a,b⟩:=he;exact ⟨L',h2 _ _ a,b⟩
  | outgrown=>exact he⟩
theorem TriE.pre {f:FuncId} {args:Array Value} {L' : List HP} {pr:Value→List HP→Prop} {pp:List PanicEntry→List HP→Prop} (h:TriE P f args L' pr pp) (hl:Ent L L'):TriE P f args L pr pp :=
 ⟨h.enters,fun θ R w s=>h.calls θ R w (hl θ R w s)⟩
def rI (P:Program) (N:Nat) (rs:List ResultVar) (pr:Value→List HP→Prop) (pp:List PanicEntry→List HP→Prop):Post:=fun e env L=>match e with
 | .ret | .normal=>∀ θ R w,Sat θ (L++R) w→∃ vs L',ResOk P N env L rs vs∧Sat θ (L'++R) w∧pr (resV vs) L'
 | .panic ch=>∃ L',Ent L L'∧pp ch L'
 | _=>False
theorem KX.l8 {rs:List ResultVar} {pr:Value→List HP→Prop} {pp:List PanicEntry→List HP→Prop} {vs:List Value} {L' : List HP} (h1:ResOk P N env L rs vs) (h2:Ent L L') (h3:pr (resV vs) L'):rI P N rs pr pp .normal env L:=fun θ R w s=>⟨vs,L',h1,h2 θ R w s,h3⟩
theorem KX.f8 {rs:List ResultVar} {pr:Value→List HP→Prop} {pp:List PanicEntry→List HP→Prop} {ch:List PanicEntry} {L' : List HP} (h2:Ent L L') (h3:pp ch L'):rI P N rs pr pp (.panic ch) env L:=⟨L',h2,h3⟩
theorem KX.e7 {n:Env→List HP→Prop} {ch:List PanicEntry} (h:K (.panic ch) env L):Post.seq n K (.panic ch) env L:=h
theorem KX.d9 {id:Nat} {ch:List PanicEntry} (h:K (.panic ch) env L):Post.inBlock id K (.panic ch) env L:=h
theorem kS {fn:Func} {tmps:Array Value} {R:Ending→World→Prop} {θ:Th} {Y:List HP} {u:FrameMode} (hu:u≠.run):∀ (M:List Nat) (w:World),Sat θ (mkH M++Y) w→(∀ w',Sat θ Y w'→LeavesIn Fence.wide 0 P fn tmps R [] u w')→LeavesInM Fence.wide 0 P fn tmps R (mkD M) u w
 | [],w,s,h=>h w s
 | D::M,w,s,h=>by
  have s0:Sat θ (own D (.deferred (some []))::(mkH M++Y)) w:=s
  have hb:=s0.own_heap
  refine ⟨hu,.inl ⟨D,{ w with heap:=w.heap.setIfInBounds D (.deferred none) },rfl,?_,?_⟩⟩
  ·simp [Instr.takeDeferred,getObj,setObj,Sem.run,hb,bind,Sem.bind,pure]
  ·have hlt:D<w.heap.size:=(Array.getElem?_eq_some_iff.1 hb).1
   have s1:Sat θ (own D (.deferred none)::(mkH M++Y)) { w with heap:=w.heap.setIfInBounds D (.deferred none) }:=by
    refine s0.update ⟨s.1.tape,s.1.os,s.1.output,s.1.drawn⟩ (by simp [hlt]) ?_
    intro k x hk hx
    simp only [Array.getElem?_setIfInBounds]
    rw [if_neg (fun e=>hk e.symm)]
    exact hx
   exact kS hu M _ s1.tail h
theorem EnvOk.d7 {fn:Func} {args:List Value} (hN:fn.ntmps=N) (hN' : args.length≤N):EnvOk N (env0 args 0) { tmps:=args.toArray++Array.replicate (fn.ntmps - args.toArray.size) undef,defers:=[] }:=by
 refine ⟨by simp [hN];omega,?_⟩
 intro t v ht
 rw [pQ] at ht
 simp at ht
 have hlt:t<args.length:=(List.getElem?_eq_some_iff.1 ht).1
 rw [Array.getElem?_append_left (by simpa using hlt)]
 simpa using ht
theorem TriE.body {f:FuncId} {fn:Func} {c:Code} {args:List Value} {pr:Value→List HP→Prop} {pp:List PanicEntry→List HP→Prop} {rs:List ResultVar} (N:Nat)
  (he:Enters P f) (hf:P.funcs[f]? = some fn) (hb:fn.body=some c) (hr:fn.results=rs.toArray) (hN:fn.ntmps=N) (hN' : args.length≤N)
  (h:G P N c (env0 args 0) L (rI P N rs pr pp)):TriE P f args.toArray L pr pp:=by
 refine ⟨he,fun θ R w s=>(callsIn_wide (n:=0)).1 (callsIn_of_wp_marks hf hb trivial ?_)⟩
 refine wpIn_mono (h none θ R _ w (fun l hl=>by cases hl) ⟨[],EnvOk.d7 hN hN',rfl,s⟩) ?_
 rintro e a' w' ⟨env',L',⟨M,ea',hm,s'⟩,hex⟩
 have s1:Sat θ (mkH M++(L'++R)) w':=s'.perm (by
  rw [← az,← az]
  exact List.perm_append_comm.append_right R)
 have hret:(∀ θ R w,Sat θ (L'++R) w→∃ vs L'',ResOk P N env' L' rs vs∧Sat θ (L''++R) w∧pr (resV vs) L'')→LeavesInM Fence.wide 0 P fn a'.tmps (EndR θ R pr pp) a'.defers .returning w':=by
  intro hall
  rw [hm]
  refine kS (by simp) M w' s1 fun w₂ s₂=>?_
  obtain ⟨vs,L'',hvs,hent,hpost⟩:=hall θ R w₂ s₂
  exact ⟨_,jm (P:=P) ea' s₂ hr hvs,L'',hpost,hent⟩
 cases e with
 | ret=>exact hret hex
 | normal=>exact hret hex
 | panic ch =>
  obtain ⟨L'',hent,hpost⟩:=hex
  show LeavesInM Fence.wide 0 P fn a'.tmps (EndR θ R pr pp) a'.defers (.panicking ch) w'
  rw [hm]
  refine kS (by simp) M w' s1 fun w₂ s₂=>?_
  exact ⟨L'',hpost,hent θ R w₂ s₂⟩
 | exit id=>exact hex.elim
 | goto l=>exact hex.elim
 | outgrown=>exact hex.elim
theorem GO.panic {ops:Array Oper} {rest:List Oper} {x:Operand} {t:TypeId} {v:Value} {pos:String} {af:Array Edge} (hx:evE env x=some (.iface t v)) (h:K (.panic [{ v:=.iface t v,recovered:=false }]) env L):GO P N ops (⟨none,.panic x,ty,pos,af,none⟩::rest) env L K:=by
 intro r θ Y a w hr i
 refine wpListIn_plain rfl fun K' hK=>kW (fun c hc=>by cases hc) ?_
 have hrun:(execOp a.eval ⟨none,.panic x,ty,pos,af,none⟩).run P w=.halt (.panic (.iface t v)) w:=by
  simp [execOp,aI i.agr hx,Instr.panic,goPanic]
 rw [Oper.wp,hrun,Oper.upon_panic]
 exact ⟨env,L,i,h⟩
theorem Ev.g8 {t:TypeId} {x:Operand} {n:Nat} {v:Value} [ht:TyIS P t n] (hx:evE env x=some v):Ev P L env (.makeInterface t x) ty (.iface t v) :=
 Ev.mk (fun θ R ρ w ea s _ _ _ _=>by
  simp [execOp,aI ea hx,Instr.makeInterface,run_underlying ht.under])
theorem Ev.A9 {t xt:TypeId} {x:Operand} {n:Nat} {v:Value} [ht:TyIS P t n] (hx:evE env x=some (.iface t v)):Ev P L env (.typeAssert x xt t true) ty (.tuple #[v,.bool true]) :=
 Ev.mk (fun θ R ρ w ea s _ _ _ _=>by
  simp [execOp,aI ea hx,Instr.typeAssert,run_underlying ht.under])
theorem Ev.A8 {t xt:TypeId} {x:Operand} {n:Nat} {z:Value} [ht:TyIS P t n] (hz:(P.info? t).map (·.zero)=some (some z)) (hx:evE env x=some .nilIface):Ev P L env (.typeAssert x xt t true) ty (.tuple #[z,.bool false]) :=
 Ev.mk (fun θ R ρ w ea s _ _ _ _=>by
  cases hi:P.info? t with
  | none=>rw [hi] at hz;cases hz
  | some i =>
   rw [hi] at hz
   simp at hz
   simp [execOp,aI ea hx,Instr.typeAssert,run_underlying ht.under,zeroValue,typeInfo,hi,hz])
structure AtD (N:Nat) (env:Env) (L:List HP) (θ:Th) (R:List HP) (D:List Deferred) (a:Act) (w:World):Prop where
 eok:EnvOk N env a
 def_:a.defers=D
 sat:Sat θ (L++R) w
theorem AtD.ent {θ:Th} {R:List HP} {D:List Deferred} {a:Act} {w:World} {L' : List HP} (h:AtD N env L θ R D a w) (hl:Ent L L'):AtD N env L' θ R D a w:=⟨h.eok,h.def_,hl θ R w h.sat⟩
theorem Bb {ops:Array Oper} {Q:Exit→Act→World→Prop} {θ:Th} {R:List HP} {D:List Deferred} {a:Act} {w:World} {rest:List Oper} {d:Nat} {op:Op} {pos:String} {af:Array Edge} {post:Value→List HP→Prop} (i:AtD N env L θ R D a w) (he:Ef P L env op ty post) (hd:d<N)
  (h:∀ v L' a' w',post v L'→AtD N ((d,v)::env) L' θ R D a' w'→wpList P ops Q rest a' w'):wpList P ops Q (⟨some d,op,ty,pos,af,none⟩::rest) a w :=
 wpList_plain rfl fun K' hK=>he θ R a w _ K' Q i.eok.agr i.sat rfl rfl fun v L' w' hp s'=>hK _ _ (h v L' _ w' hp ⟨i.eok.put hd _,i.def_,s'⟩)
theorem Ea {ops:Array Oper} {Q:Exit→Act→World→Prop} {θ:Th} {R:List HP} {D:List Deferred} {a:Act} {w:World} {rest:List Oper} {op:Op} {pos:String} {af:Array Edge} {post:Value→List HP→Prop} (i:AtD N env L θ R D a w) (he:Ef P L env op ty post)
  (h:∀ v L' a' w',post v L'→AtD N env L' θ R D a' w'→wpList P ops Q rest a' w'):wpList P ops Q (⟨none,op,ty,pos,af,none⟩::rest) a w :=
 wpList_plain rfl fun K' hK=>he θ R a w _ K' Q i.eok.agr i.sat rfl rfl fun v L' w' hp s'=>hK _ _ (h v L' _ w' hp ⟨i.eok,i.def_,s'⟩)
theorem ul {ops:Array Oper} {Q:Exit→Act→World→Prop} {θ:Th} {R:List HP} {D:List Deferred} {a:Act} {w:World} {rest:List Oper} {d:Nat} {op:Op} {pos:String} {af:Array Edge} {v:Value} (i:AtD N env L θ R D a w) (he:Ev P L env op ty v) (hd:d<N)
  (h:∀ a' w',AtD N ((d,v)::env) L θ R D a' w'→wpList P ops Q rest a' w'):wpList P ops Q (⟨some d,op,ty,pos,af,none⟩::rest) a w :=
 Bb i he.ef hd (by rintro _ _ a' w' ⟨rfl,rfl⟩ i';exact h a' w' i')
theorem Bc {ops:Array Oper} {Q:Exit→Act→World→Prop} {θ:Th} {R:List HP} {D:List Deferred} {a:Act} {w:World} {rest:List Oper} {x:Operand} {fv:Fn} {cap:Array Value} {pos:String} {af:Array Edge} (i:AtD N env L θ R D a w) (hx:evE env x=some (.func fv #[] cap))
  (h:∀ a' w',AtD N env L θ R ({ target:=.fn fv cap,args:=#[] }::D) a' w'→wpList P ops Q rest a' w'):wpList P ops Q (⟨none,.defer { callee:=.value x,args:=#[],argTypes:=#[] },ty,pos,af,none⟩::rest) a w:=by
 refine wpList_plain rfl fun K' hK=>?_
 have hrun:(execOp a.eval ⟨none,.defer { callee:=.value x,args:=#[],argTypes:=#[] },ty,pos,af,none⟩).run P w=.ok (.defer { target:=.fn fv cap,args:=#[] }) w:=by
  simp [execOp,resolve,Deferred.ofValue,aI i.eok.agr hx]
 rw [Oper.wp,hrun,Oper.upon_defer]
 refine hK _ _ (h _ w ⟨⟨i.eok.size,i.eok.at_⟩,?_,i.sat⟩)
 show _::a.defers=_
 rw [i.def_]
theorem Bd {ops:Array Oper} {Q:Exit→Act→World→Prop} {θ:Th} {R:List HP} {D:List Deferred} {a:Act} {w:World} {rest:List Oper} {d:Nat} {x:Operand} {f:FuncId} {cap:List Value} {ats:Array TypeId} {pr:Value→List HP→Prop} {pp:List PanicEntry→List HP→Prop} {pre R' : List HP} {pos:String} {af:Array Edge} (i:AtD N env L θ R D a w) (c:TriE P f cap.toArray pre pr pp) (hx:evE env x=some (.func (.func f) #[] cap.toArray)) (hL:Ent L (pre++R')) (hd:d<N)
  (h:∀ v L' a' w',pr v L'→AtD N ((d,v)::env) (L'++R') θ R D a' w'→wpList P ops Q rest a' w')
  (h2:∀ ch L' w',pp ch L'→AtD N env (L'++R') θ R D a w'→Q (.panic ch) a w'):wpList P ops Q (⟨some d,.call { callee:=.value x,args:=#[],argTypes:=ats },ty,pos,af,none⟩::rest) a w:=by
 refine wpList_plain rfl fun K' hK=>?_
 have hrun:(execOp a.eval ⟨some d,.call { callee:=.value x,args:=#[],argTypes:=ats },ty,pos,af,none⟩).run P w=.ok (.enter f cap.toArray) w:=by
  simp [execOp,resolve,Deferred.ofValue,invoke,aI i.eok.agr hx]
  exact c.enters _ _
 rw [Oper.wp,hrun,Oper.upon_enter]
 have s0:Sat θ (pre++(R'++R)) w:=by
  rw [← az]
  exact hL θ R w i.sat
 refine (c.calls θ (R'++R) w s0).mono ?_
 rintro e w' he
 cases e with
 | returned v =>
  obtain ⟨L',hp,s'⟩:=he
  exact hK _ _ (h v L' _ w' hp ⟨i.eok.put hd _,i.def_,by rw [az];exact s'⟩)
 | panicked ch =>
  obtain ⟨L',hp,s'⟩:=he
  exact h2 ch L' w' hp ⟨i.eok,i.def_,by rw [az];exact s'⟩
 | outgrown=>exact he.elim
theorem Ba {ops:Array Oper} {Q:Exit→Act→List Frame→World→Prop} {cs:List Frame} {a:Act} {w:World} {rest:List Nat} {i:Nat} {o:Oper} (ho:ops[i]? = some o) (hg:o.guard=none) (h:o.wp P a w (fun a' w'=>wpOpsS P ops Q rest a' cs w') (fun e a' w'=>Q e a' cs w')):wpOpsS P ops Q (i::rest) a cs w:=by
 unfold wpOpsS
 simp only [ho,Region.wanted,hg,if_true]
 unfold Oper.wp at h
 split
 ·rename_i w' hr
  rw [hr] at h
  exact h.elim
 ·exact h
theorem uk {ops:Array Oper} {Q:Exit→Act→List Frame→World→Prop} {cs:List Frame} {θ:Th} {R:List HP} {D:List Deferred} {a:Act} {w:World} {rest:List Nat} {i d:Nat} {op:Op} {pos:String} {af:Array Edge} {post:Value→List HP→Prop} (ho:ops[i]? = some ⟨some d,op,ty,pos,af,none⟩) (s:AtD N env L θ R D a w) (he:Ef P L env op ty post) (hd:d<N)
  (h:∀ v L' a' w',post v L'→AtD N ((d,v)::env) L' θ R D a' w'→wpOpsS P ops Q rest a' cs w'):wpOpsS P ops Q (i::rest) a cs w :=
 Ba ho rfl (he θ R a w _ _ _ s.eok.agr s.sat rfl rfl fun v L' w' hp s'=>h v L' _ w' hp ⟨s.eok.put hd _,s.def_,s'⟩)
theorem rL {ops:Array Oper} {Q:Exit→Act→List Frame→World→Prop} {cs:List Frame} {θ:Th} {R:List HP} {D:List Deferred} {a:Act} {w:World} {rest:List Nat} {i:Nat} {op:Op} {pos:String} {af:Array Edge} {post:Value→List HP→Prop} (ho:ops[i]? = some ⟨none,op,ty,pos,af,none⟩) (s:AtD N env L θ R D a w) (he:Ef P L env op ty post)
  (h:∀ v L' a' w',post v L'→AtD N env L' θ R D a' w'→wpOpsS P ops Q rest a' cs w'):wpOpsS P ops Q (i::rest) a cs w :=
 Ba ho rfl (he θ R a w _ _ _ s.eok.agr s.sat rfl rfl fun v L' w' hp s'=>h v L' _ w' hp ⟨s.eok,s.def_,s'⟩)
theorem iq {ops:Array Oper} {Q:Exit→Act→List Frame→World→Prop} {cs:List Frame} {θ:Th} {R:List HP} {D:List Deferred} {a:Act} {w:World} {rest:List Nat} {i d:Nat} {op:Op} {pos:String} {af:Array Edge} {v:Value} (ho:ops[i]? = some ⟨some d,op,ty,pos,af,none⟩) (s:AtD N env L θ R D a w) (he:Ev P L env op ty v) (hd:d<N)
  (h:∀ a' w',AtD N ((d,v)::env) L θ R D a' w'→wpOpsS P ops Q rest a' cs w'):wpOpsS P ops Q (i::rest) a cs w :=
 uk ho s he.ef hd (by rintro _ _ a' w' ⟨rfl,rfl⟩ i';exact h a' w' i')
theorem yD {a:Act} {w:World} {d:Option Tmp} {pos:String} {af:Array Edge}:(execOp a.eval ⟨d,.call { callee:=.builtin .recover,args:=#[],argTypes:=#[] },ty,pos,af,none⟩).run P w=.ok .recover w:=by
 simp [execOp,resolve,invoke,builtin]
theorem DZ {ops:Array Oper} {Q:Exit→Act→List Frame→World→Prop} {cs cs' : List Frame} {θ:Th} {R:List HP} {D:List Deferred} {a:Act} {w:World} {rest:List Nat} {i d:Nat} {v:Value} {pos:String} {af:Array Edge} (ho:ops[i]? = some ⟨some d,.call { callee:=.builtin .recover,args:=#[],argTypes:=#[] },ty,pos,af,none⟩) (s:AtD N env L θ R D a w) (hr:recoverD cs=some (v,cs')) (hd:d<N)
  (h:∀ a' w',AtD N ((d,v)::env) L θ R D a' w'→wpOpsS P ops Q rest a' cs' w'):wpOpsS P ops Q (i::rest) a cs w:=by
 unfold wpOpsS
 simp only [ho,Region.wanted,if_true,yD,hr]
 exact h _ _ ⟨s.eok.put hd _,s.def_,s.sat⟩
theorem CR {ops:Array Oper} {Q:Exit→Act→List Frame→World→Prop} {cs:List Frame} {θ:Th} {R:List HP} {D:List Deferred} {a:Act} {w:World} {rest:List Nat} {i d:Nat} {pos:String} {af:Array Edge} (ho:ops[i]? = some ⟨some d,.call { callee:=.builtin .recover,args:=#[],argTypes:=#[] },ty,pos,af,none⟩) (s:AtD N env L θ R D a w) (hr:recoverD cs=none) (hd:d<N)
  (h:∀ a' w',AtD N ((d,.nilIface)::env) L θ R D a' w'→wpOpsS P ops Q rest a' cs w'):wpOpsS P ops Q (i::rest) a cs w:=by
 unfold wpOpsS
 simp only [ho,Region.wanted,if_true,yD,hr]
 exact h _ _ ⟨s.eok.put hd _,s.def_,s.sat⟩
end
end
section
section
variable {P:Program} {L:List HP} {env:Env} {ty:TypeId}
theorem Ev.B9 {t yt:TypeId} {x y:Operand} {k:IntKind} {a:Int} (hx:evE env x=some (.int .i64 a)) (hy:evE env y=some (.int k 32)):Ev P L env (.binOp .shr t x y yt) ty (.int .i64 (a / 4294967296)):=by
 have h:=Ev.shr (P:=P) (L:=L) (ty:=ty) (t:=t) (yt:=yt) hx hy ac
 have e:a.fdiv (2 ^ min (32:Int).toNat IntKind.i64.bits)=a / 4294967296:=by
  rw [show (2:Int) ^ min (32:Int).toNat IntKind.i64.bits=4294967296 by decide]
  exact Int.fdiv_eq_ediv_of_nonneg a ac
 rw [e] at h
 exact h
theorem Ev.m7 {t yt:TypeId} {x y:Operand} {k:IntKind} {a:Int} (hx:evE env x=some (.int .i64 a)) (hy:evE env y=some (.int k 32)) (h0 : -2147483648≤a) (h1:a≤2147483647):Ev P L env (.binOp .shl t x y yt) ty (.int .i64 (a*4294967296)):=by
 have h:=Ev.shl (P:=P) (L:=L) (ty:=ty) (t:=t) (yt:=yt) hx hy ac
 have e:IntKind.i64.wrap (a*2 ^ min (32:Int).toNat IntKind.i64.bits)=a*4294967296:=by
  rw [show (2:Int) ^ min (32:Int).toNat IntKind.i64.bits=4294967296 by decide]
  exact jC ab ab
 rw [e] at h
 exact h
end
end
end Go.V
