/- Lemmas and contracts of functions. -/
import Derived.Test.YtfmgkkofledkbaaGreatDoorGCraftNews
import Derived.Test.YtfmgkkofledkbaaGreatDoorGCraftNewk
import Derived.Test.YtfmgkkofledkbaaGreatDoorGCraftNewj
import Derived.Test.YtfmgkkofledkbaaGreatDoorGCraftNewu
import Derived.Test.YtfmgkkofledkbaaGreatDoorGCraftNewcb
import Derived.Test.YtfmgkkofledkbaaGreatDoorGCraftNewe
import Derived.Test.YtfmgkkofledkbaaGreatDoorGCraftNewb
set_option linter.all false
set_option maxHeartbeats 4000000
namespace Go.Proofs.YtfmgkkofledkbaaGreatDoor
section
open Go.V
attribute [local irreducible] G GO GP GPW GPK Ev Ef EfR Ent CB GB V.Enters
theorem Cf {m:List (Int×SlI)} (hn:(m.map (·.1)).Nodup) (a:Int) {L:List HP}:Ent (osl (encZ .i64) 1 tInt (slOf m a).ad (slOf m a).cap (slOf m a).ids::bigO idsP (gera m a)::L) (bigO idsP m::L):=by
 unfold slOf
 cases h:glk m a with
 | none =>
  rw [nI (lP h)]
  exact Ent.drop
 | some e =>
  have h1:Ent (idsP (a,e)::bigO idsP (gera m a)::L) (bigO idsP ((a,e)::gera m a)::L):=Ent.bigO_cons
  exact h1.trans (Ent.f7 (mo hn h).symm)
theorem uz {L:List HP} (yb lb:Nat) (Y:YardM) (hY:Y.Ok) (a:Int) :
  Tri Tryz.prog 24 #[.pointer (some ⟨yb,0,none⟩),.int .i64 a] (cD yb lb Y::L) (fun v L'=>∃ ad cap,v=.slice ad (bB Y.jobs a).length cap∧L' = osl (encZ .i64) 1 tInt ad cap (bB Y.jobs a)::cD yb lb Y::L):=by
 have hjl:=hY.len
 refine Tri.body (args:=[.pointer (some ⟨yb,0,none⟩),.int .i64 a]) 12 en24 Tryz.func24 rfl rfl rfl (by simp) ?_
 refine G.c6 (f:=gi yb lb Y) ?_
 intro x
 simp only [gi,dl,ae,ah]
 refine G.c8 ?_
 intro hF
 have hyc:=eP (yb:=yb) (lb:=lb) (Y:=Y) (L:=L) x hF
 simp only [dl] at hyc
 refine G.c9 (hZ (b:=x.om)) ?_
 intro hnd
 have hids:=qi hF a
 obtain ⟨sl,hsl⟩:∃ sl,slOf x.m a=sl:=⟨_,rfl⟩
 rw [hsl] at hids
 have hil:sl.ids.length≤60:=by
  rw [hids]
  unfold bB
  rw [av]
  have:=cO (fun k=>decide (Y.jobs[k]!.acc=a) && !Y.jobs[k]!.done) (List.range Y.jobs.length)
  rw [eS] at this
  omega
 repeat first|refine aa ?_|intro
 refine GO.ev (zj rfl hsl rfl rfl) ac ?_
 repeat first|refine aa ?_|intro
 have hso:=ou (m:=x.m) hnd a (L:=obj yb bY (aN lb Y x)::isl (encZ .u8) 1 x.sad Y.seed::osl aH 10 tJob x.jad x.jcap Y.jobs::gmap kvI SlI.v x.om x.m::L)
 rw [hsl] at hso
 refine GO.ent (L':=osl (encZ .i64) 1 tInt sl.ad sl.cap sl.ids::bigO idsP (gera x.m a)::obj yb bY (aN lb Y x)::isl (encZ .u8) 1 x.sad Y.seed::osl aH 10 tJob x.jad x.jcap Y.jobs::gmap kvI SlI.v x.om x.m::L) (Ent.trans ai hso) ?_
 refine GO.ef (Ef.a6 (jH sl.ad sl.ids.length sl.cap sl.ids rfl ab) rfl) ac ?_
 rintro _ _ ⟨ad2,cap2,rfl,rfl⟩
 repeat first|refine aa ?_|intro
 rw [← hids]
 refine KX.a6 am ?_ ⟨ad2,cap2,rfl,rfl⟩
 refine Ent.a6 ?_
 refine Ent.trans ?_ hyc
 have hsc:=Cf (m:=x.m) hnd a (L:=obj yb bY (aN lb Y x)::isl (encZ .u8) 1 x.sad Y.seed::osl aH 10 tJob x.jad x.jcap Y.jobs::gmap kvI SlI.v x.om x.m::L)
 rw [hsl] at hsc
 refine hsc.trans ?_
 exact ai
end
section
open Go.V
attribute [local irreducible] G GO GP GPW GPK Ev Ef EfR Ent CB GB V.Enters
def job0:JobM:=⟨0,0,0,0,0,0,0,false,0,0⟩
theorem yA {L:List HP} (yb lb:Nat) (Y:YardM) (hY:Y.Ok) (k:Nat) (hk:Y.jobs.length≤k) (hk2:k≤1000000) :
  Tri Tryz.prog 25 #[.pointer (some ⟨yb,0,none⟩),.int .i64 (k:Int)] (cD yb lb Y::L) (fun v L'=>v=.tuple #[.agg (aH job0).toArray,.bool false]∧L' = cD yb lb Y::L):=by
 have hl:=hY.len
 refine Tri.body (args:=[.pointer (some ⟨yb,0,none⟩),.int .i64 (k:Int)]) 25 en25 Tryz.func25 rfl rfl rfl (by simp) ?_
 refine G.c6 (f:=gi yb lb Y) ?_
 intro x
 simp only [gi,dl,ae,ah]
 refine G.c8 ?_
 intro hF
 have hyc:=eP (yb:=yb) (lb:=lb) (Y:=Y) (L:=L) x hF
 simp only [dl] at hyc
 repeat first|refine aa ?_|intro
 refine KX.a6 (vs:=[.agg (aH job0).toArray,.bool false]) (ResOk.cell rfl (by rfl) (ResOk.tmp rfl ResOk.nil)) (Ent.trans ai hyc) ⟨rfl,rfl⟩
theorem Bq {L:List HP} (j:JobM) :
  Tri Tryz.prog 30 #[.agg (aH j).toArray] L (fun v L'=>v=.agg (aH j).toArray∧L' = L):=by
 refine Tri.body (args:=[.agg (aH j).toArray]) 24 en30 Tryz.func30 rfl rfl rfl (by simp) ?_
 simp only [aH]
 repeat first|refine aa ?_|intro
 exact KX.a6 (by exact ResOk.cell rfl (by rfl) (ResOk.nil)) ai ⟨rfl,rfl⟩
end
section
open Go.V
attribute [local irreducible] G GO GP GPW GPK Ev Ef EfR Ent CB GB V.Enters
def iZ (js:List JobM) (a:Int) (i:Nat):List Int:=((List.range i).filter (fun k=>decide (js[k]!.acc=a) && !js[k]!.done)).map (fun k:Nat=>(k:Int))
theorem ry (js:List JobM) (a:Int):iZ js a js.length=bB js a:=rfl
theorem Bf {js:List JobM} {a:Int} {i:Nat} (h1:js[i]!.acc=a) (h2:js[i]!.done=false):iZ js a (i+1)=iZ js a i++[(i:Int)]:=by
 unfold iZ
 rw [ca,cB,aK,dn (by simp only [h1,h2,decide_true,dh,Bool.and_self])]
 rfl
theorem tc {js:List JobM} {a:Int} {i:Nat} (h:¬js[i]!.acc=a∨js[i]!.done=true):iZ js a (i+1)=iZ js a i:=by
 unfold iZ
 rw [ca,cB,aK,dp (by rcases h with h|h<;>simp only [h,decide_false,Bool.false_and,dJ,Bool.and_false,dF,not_false_eq_true])]
 exact bR _
theorem rx (js:List JobM) (a:Int) (i:Nat):(iZ js a i).length≤i:=by
 unfold iZ
 rw [av]
 have:=cO (fun k=>decide (js[k]!.acc=a) && !js[k]!.done) (List.range i)
 rw [eS] at this
 exact this
theorem tV {L:List HP} (yb lb:Nat) (Y:YardM) (hY:Y.Ok) (a:Int) :
  Tri Tryz.prog 89 #[.pointer (some ⟨yb,0,none⟩),.int .i64 a] (eA yb lb Y::L) (fun v L'=>∃ ad cap,v=.slice ad (bB Y.jobs a).length cap∧L' = osl (encZ .i64) 1 tInt ad cap (bB Y.jobs a)::eA yb lb Y::L):=by
 have hjl:=hY.len
 refine Tri.body (args:=[.pointer (some ⟨yb,0,none⟩),.int .i64 a]) 42 en89 Tryz.func89 rfl rfl rfl (by simp) ?_
 refine G.c6 (f:=ryA yb lb Y) ?_
 intro y
 simp only [ryA,ryL,ae,ah]
 have hyc:=fR (yb:=yb) (lb:=lb) (Y:=Y) (L:=L) y
 simp only [ryL] at hyc
 repeat first|refine aa ?_|intro
 refine G.loop (α:=Nat×Option Addr×Nat) (fun g=>g.1≤Y.jobs.length) (fun g=>[(0,.pointer (some ⟨yb,0,none⟩)),(1,.int .i64 a),(5,.slice g.2.1 (iZ Y.jobs a g.1).length g.2.2),(6,.int .i64 (g.1:Int))]) (fun g=>osl (encZ .i64) 1 tInt g.2.1 g.2.2 (iZ Y.jobs a g.1)::obj yb tRY (bM lb Y y)::isl (encZ .u8) 1 y.sad Y.seed::osl aH 10 tRJ y.jad y.jcap Y.jobs::L) (fun g=>Y.jobs.length - g.1) (0,none,0) (ap _) ao (Ent.a7 (encZ .i64) 1 tInt) ?_
 rintro ⟨i,ad,cap⟩ hi
 dsimp only at hi ⊢
 have hol:=rx Y.jobs a i
 by_cases hlt:i<Y.jobs.length
 case neg =>
  obtain rfl:i=Y.jobs.length:=ab
  rw [ry]
  repeat first|refine aa ?_|intro
  exact KX.a6 am (Ent.a6 hyc) ⟨ad,cap,rfl,rfl⟩
 have hii:(i:Int).toNat=i:=aq i
 have hlt' : (i:Int).toNat<Y.jobs.length:=ab
 by_cases h1:Y.jobs[(i:Int).toNat]!.acc=a
 case neg =>
  have e:=tc (js:=Y.jobs) (a:=a) (i:=i) (.inl (by rw [← hii];exact h1))
  repeat first|refine aa ?_|intro
  refine ⟨(i+1,ad,cap),by dsimp only;omega,by dsimp only;omega,?_,by dsimp only;rw [e];exact ai⟩
  dsimp only
  rw [e,aF i]
  exact ao
 cases hd:Y.jobs[(i:Int).toNat]!.done with
 | true =>
  have e:=tc (js:=Y.jobs) (a:=a) (i:=i) (.inr (by rw [← hii];exact hd))
  repeat first|refine aa ?_|intro
  simp only [hd,dJ]
  repeat first|refine aa ?_|intro
  refine ⟨(i+1,ad,cap),by dsimp only;omega,by dsimp only;omega,?_,by dsimp only;rw [e];exact ai⟩
  dsimp only
  rw [e,aF i]
  exact ao
 | false =>
  have e:=Bf (js:=Y.jobs) (a:=a) (i:=i) (by rw [← hii];exact h1) (by rw [← hii];exact hd)
  repeat first|refine aa ?_|intro
  simp only [hd,dh]
  repeat first|refine aa ?_|intro
  refine GO.ef (Ef.a7 (enc:=encZ .i64) (e:=(i:Int)) rfl rfl rfl rfl rfl (by rfl) (by simp [encZ,Value.oneCell']) ab ab) ac ?_
  rintro _ _ ⟨ad2,cap2,rfl,rfl⟩
  repeat first|refine aa ?_|intro
  rw [← e]
  refine ⟨(i+1,ad2,cap2),by dsimp only;omega,by dsimp only;omega,?_,by exact ai⟩
  dsimp only
  rw [aF i]
  exact ao
end
section
open Go.V
attribute [local irreducible] tryM
def FewF (F:List FlM):Prop:=∀ f∈F,f.parts.length≤4096∧f.made.length≤1000000
theorem wE {mix:Int→Bool} {W:Wk} {nf:Nat} (hO:W.Ok nf) (m:MvM):(gn mix W m).length≤4096:=by
 unfold gn
 split
 ·exact ap _
 ·exact cM (jq _ _ _).1 (hO.stk _ _).1
theorem yq {sh:Int} {mix:Int→Bool} {s:StM} {W:Wk} {nf:Nat} (hO:W.Ok nf) (hl:W.flows.length≤1000000) (m:MvM):(fx sh nf mix s W m).parts.length≤4096∧(fx sh nf mix s W m).made.length≤1000000:=by
 refine ⟨wE hO m,?_⟩
 show (eb s W m).length≤_
 unfold eb
 have:=hO.sunk
 split
 ·omega
 ·exact ap _
theorem CK {sh:Int} {mix:Int→Bool} {s:StM} {W:Wk} {nf:Nat} {m:MvM} (hO:W.Ok nf) (hl:W.flows.length≤1000000) (h:FewF W.flows) (he:(cz sh nf mix s W m).1=0):FewF (cz sh nf mix s W m).2.flows:=by
 have hn:=yq (sh:=sh) (mix:=mix) (s:=s) hO hl m
 have hf:FewF (W.flows++[fx sh nf mix s W m]):=fun f hf=>by
  rcases List.mem_append.1 hf with hf|hf
  ·exact h f hf
  ·rw [List.mem_singleton.1 hf]
   exact hn
 unfold cz at he ⊢
 by_cases h1:m.frm≠0∧lsum (W.stk m.frm m.item)<m.n
 ·rw [if_pos h1] at he;exact absurd (show (10:Int)=0 from he) ab
 rw [if_neg h1] at he ⊢
 by_cases h2:db W m>1099511627776
 ·rw [if_pos h2] at he;exact absurd (show (4:Int)=0 from he) ab
 rw [if_neg h2] at he ⊢
 by_cases h3:m.to=0
 ·rw [if_pos h3]
  exact hf
 rw [if_neg h3] at he ⊢
 by_cases h4:4096≤(cy mix W m m.to m.item).length
 ·rw [if_pos h4] at he;exact absurd (show (4:Int)=0 from he) ab
 rw [if_neg h4]
 exact hf
theorem rB {sh:Int} {nf:Nat} {mix:Int→Bool} {s:StM} (hsh:0≤sh):∀ (ms:List MvM) (W:Wk),W.Ok nf→W.flows.length+ms.length≤1000000→(∀ m∈ms,1≤m.n∧m.n≤1099511627776)→FewF W.flows→(dy sh nf mix s W ms).1=0→FewF (dy sh nf mix s W ms).2.flows
 | [],_,_,_,_,h,_=>h
 | m::ms,W,hO,hl,hn,h,he=>by
  rw [aR] at hl
  have e:dy sh nf mix s W (m::ms)=if (cz sh nf mix s W m).1=0 then dy sh nf mix s (cz sh nf mix s W m).2 ms else ((cz sh nf mix s W m).1,W):=rfl
  rw [e] at he ⊢
  by_cases h1:(cz sh nf mix s W m).1=0
  ·rw [if_pos h1] at he ⊢
   obtain ⟨h2,h3⟩:=lL hO fX (hn m aA) hsh h1
   exact rB hsh ms _ h2 (by rw [h3];omega) (fun x hx=>hn x (az _ hx)) (CK hO ab h h1) he
  ·rw [if_neg h1] at he
   exact absurd he h1
def se (S:LedM):Prop:=S.Ok∧FewF S.flows
theorem rv (S:LedM) (s:StM) (h:se S):se (bz S s):=by
 refine ⟨ig h.1 fX,?_⟩
 unfold bz
 split
 ·rename_i he
  obtain ⟨h1,h2,_⟩:=lB h.1 fX he
  have e:tryM S s=dy S.shard S.flows.length (cP S.cat) (s.at (aW S)) (wk0 S) s.moves:=by
   unfold tryM
   rw [if_neg ab,if_neg (fun q=>q h2)]
  have hl:=h2.2.2.1.2
  show FewF (S.flows++(tryM S s).2.flows)
  intro f hf
  rcases List.mem_append.1 hf with hf|hf
  ·exact h.2 f hf
  ·rw [e] at he hf
   refine rB h.1.shard.1 s.moves (wk0 S) (ol h.1) (by show 0+s.moves.length≤_;omega) (fun m hm=>?_) (fun _ q=>by cases q) he f hf
   have h4:=h2.2.2.2.1 m hm
   unfold fr at h4
   rw [dH] at h4
   exact (of_decide_eq_true h4).2.1
 ·exact h.2
end
section
open Go.V
attribute [local irreducible] G GO GP GPW GPK Ev Ef EfR Ent CB GB V.Enters
theorem flP_open {f:FlV} {L:List HP}:Ent (flP f::L) (isl aI 3 f.pad f.m.parts::isl (encZ .i64) 1 f.mad f.m.made::flP f::L):=(Ent.dup (nK f).pers).trans Ent.andE
abbrev yi:List Stp:=[.ev 0,.ev 1,.ev 3,.ev 4,.ef 2,.ev 6,.ef 5,.ef 7,.ev 8,.ef 9]
theorem lm {φ ψ:Prop} (k:ψ) (h:Hid ψ→φ:=by intro k;(with_reducible apply G.a7);first|refine G.a6 (N:=12) (id:=1) yi mixed aj (Hid.out k)):φ:=h ⟨k⟩
theorem yS {L:List HP} (f:FlV) (h1:f.m.parts.length≤1000000) (h2:f.m.made.length≤1000000) :
  Tri Tryz.prog 135 #[.agg (cq f).toArray] (flP f::L) (fun v L'=>∃ f',v=.agg (cq f').toArray∧f'.m=f.m∧L' = flP f'::flP f::L):=by
 obtain ⟨⟨i1,i2,i3,i4,i5,i6,i7,i8,i9,parts,made⟩,pad,pcap,mad,mcap⟩:=f
 dsimp only at h1 h2
 refine Tri.body (args:=[.agg (cq ⟨⟨i1,i2,i3,i4,i5,i6,i7,i8,i9,parts,made⟩,pad,pcap,mad,mcap⟩).toArray]) 12 Jo Tryz.func135 rfl rfl rfl (by simp) ?_
 refine G.ent flP_open ?_
 dsimp only
 repeat first|refine aa ?_|intro _|refine lm ?_
 refine GPW.ef (Ef.a6 (ln pad parts.length pcap parts rfl h1) rfl) ac ?_
 rintro _ _ ⟨ad',cap',rfl,rfl⟩
 repeat first|refine aa ?_|intro _|refine lm ?_
 refine GPW.ef (Ef.a6 (jH mad made.length mcap made rfl h2) rfl) ac ?_
 rintro _ _ ⟨ad2,cap2,rfl,rfl⟩
 repeat first|refine aa ?_|intro _|refine lm ?_
 refine KX.a6 (by exact ResOk.cell rfl (by rfl) (ResOk.nil)) ?_ ⟨⟨⟨i1,i2,i3,i4,i5,i6,i7,i8,i9,parts,made⟩,ad',cap',ad2,cap2⟩,rfl,rfl,rfl⟩
 refine (Ent.frz ad').trans ((Ent.frz ad2).trans ?_)
 refine Ent.trans (B:=isl aI 3 ad' parts::isl (encZ .i64) 1 ad2 made::flP ⟨⟨i1,i2,i3,i4,i5,i6,i7,i8,i9,parts,made⟩,pad,pcap,mad,mcap⟩::L) ai ?_
 exact Ent.d8 (cc _ _ _ _) (cc _ _ _ _)
def fl0:FlV:=⟨⟨0,0,0,0,0,0,0,0,0,[],[]⟩,none,0,none,0⟩
theorem yL {L:List HP} (ad:Option Addr) (c:Nat) (ms:List FlV) (hl:ms.length≤100000) (hp:∀ m∈ms,m.m.parts.length≤1000000∧m.m.made.length≤1000000) :
  Tri Tryz.prog 134 #[.slice ad ms.length c,.func (.func 135) #[] #[]] (asl cq 11 de ad c ms::allP flP ms::L) (fun v L'=>∃ ad' c' ms',v=.slice ad' ms'.length c'∧ms'.map (·.m)=ms.map (·.m)∧L' = isl cq 11 ad' ms'::allP flP ms'::asl cq 11 de ad c ms::allP flP ms::L):=by
 refine Tri.body (args:=[.slice ad ms.length c,.func (.func 135) #[] #[]]) 29 Jp Tryz.func134 rfl rfl rfl (by simp) ?_
 by_cases h0:ms.length=0
 ·have e:ms=[]:=aP h0
  subst e
  repeat first|refine aa ?_|intro
  exact KX.a6 am ((Ent.c7 flP).trans (Ent.c8 cq 11 none)) ⟨none,0,[],rfl,rfl,rfl⟩
 repeat first|refine aa ?_|intro
 refine GO.ef (Ef.d8 cq fl0 rfl rfl rfl ab ab ab ab) ac ?_
 rintro _ _ ⟨bs,rfl,rfl⟩
 rw [show (ms.length:Int).toNat=ms.length by omega]
 repeat first|refine aa ?_|intro
 refine G.loop (α:=Nat×List FlV) (fun z=>z.1≤ms.length∧z.2.length=ms.length∧(z.2.take z.1).map (·.m)=(ms.take z.1).map (·.m)) (fun z=>[(1,.func (.func 135) #[] #[]),(5,.slice (some ⟨bs,0,none⟩) ms.length ms.length),(14,.slice ad ms.length c),(15,.int .i64 (ms.length:Int)),(16,.int .i64 (z.1:Int))])
  (fun z=>osl cq 11 de (some ⟨bs,0,none⟩) ms.length z.2::allP flP (z.2.take z.1)::asl cq 11 de ad c ms::allP flP ms::L) (fun z=>ms.length - z.1) (0,List.replicate ms.length fl0) ⟨ap _,by simp,by simp⟩ ao ?_ ?_
 ·dsimp only
  rw [bV]
  refine (Ent.c7 flP).trans ?_
  exact ai
 rintro ⟨i,zs⟩ ⟨hi,hzl,hze⟩
 dsimp only at hi hzl hze ⊢
 by_cases hlt:i<ms.length
 case neg =>
  have hie:i=ms.length:=ab
  subst hie
  rw [ax ab,ax ab] at hze
  rw [ax (show zs.length≤ms.length by omega)]
  repeat first|refine aa ?_|intro
  refine KX.a6 am (Ent.freezeSl) ⟨some ⟨bs,0,none⟩,ms.length,zs,by rw [hzl];rfl,hze,rfl⟩
 have hii:(i:Int).toNat=i:=ab
 have hmm:ms[i]!∈ms:=aB hlt
 have hpm:=hp _ hmm
 repeat first|refine aa ?_|intro
 rw [hii]
 refine GO.ent (Ent.at (A:=allP flP ms) (Ent.a8 (x:=ms[i]!) hmm)) ?_
 refine GO.ef (Ef.a8 rfl rfl (yS ms[i]! hpm.1 hpm.2)) ac ?_
 rintro _ _ ⟨m',rfl,hm',rfl⟩
 repeat first|refine aa ?_|intro
 refine GO.efu (Ef.d9 (e:=m') rfl rfl (by rfl) (by rfl) (jW _) ab) ?_
 rintro _ _ rfl
 rw [hii]
 repeat first|refine aa ?_|intro
 refine ⟨(i+1,zs.set i m'),⟨by dsimp only;omega,by dsimp only;simp;omega,?_⟩,by dsimp only;omega,?_,?_⟩
 ·dsimp only
  rw [eI ab,au hlt,aK,aK,hze,← getElem!_of hlt]
  simp [hm']
 ·dsimp only
  rw [aF i]
  exact ao
 ·dsimp only
  rw [eI ab]
  refine Ent.a6 ?_
  refine Ent.trans (B:=allP flP (zs.take i)::flP m'::asl cq 11 de ad c ms::allP flP ms::L) ai ?_
  exact (Ent.a6 (Ent.d9 nK)).trans (Ent.e8 nK)
theorem yD {L:List HP} (b:Nat) (S:LedM) (hS:se S) (hfl:S.flows.length≤100000) :
  Tri Tryz.prog 91 #[.pointer (some ⟨b,0,none⟩)] (LedR b S::L) (fun v L'=>∃ ad cap fs,v=.slice ad fs.length cap∧fs.map FlV.m=S.flows∧L' = isl cq 11 ad fs::allP flP fs::LedR b S::L):=by
 refine Tri.body (args:=[.pointer (some ⟨b,0,none⟩)]) 8 en91 Tryz.func91 rfl rfl rfl (by simp) ?_
 refine G.c6 (f:=ledA b S) ?_
 intro x
 simp only [ledA,ledL,bJ,ae,ah]
 refine G.c8 ?_
 intro hF
 have hxl:x.flows.length=S.flows.length:=by rw [← hF.flows];simp
 have hpp:∀ m∈x.flows,m.m.parts.length≤1000000∧m.m.made.length≤1000000:=fun m hm=>by
  have:=hS.2 m.m (by rw [← hF.flows];exact alStd0List_mem_map_of_mem hm)
  omega
 repeat first|refine aa ?_|intro
 refine GO.ent (Ent.at (A:=asl cq 11 de x.fad x.fcap x.flows) (Ent.a6 (Ent.at (A:=allP flP x.flows) (Ent.refl _)))) ?_
 refine GO.ef (Ef.a6 (yL x.fad x.fcap x.flows ab hpp) rfl) ac ?_
 rintro _ _ ⟨ad',c',fs,rfl,hfs,rfl⟩
 repeat first|refine aa ?_|intro
 refine KX.a6 am ?_ ⟨ad',c',fs,rfl,hfs.trans hF.flows,rfl⟩
 refine Ent.trans ?_ (Ent.a6 (Ent.a6 (gQ x hF)))
 simp only [ledL]
 exact ai
end
end Go.Proofs.YtfmgkkofledkbaaGreatDoor
namespace Go.V
class TyIB (P:Program) (T:Nat) (ks:outParam (List Bool)):Prop where
 under:P.underlying T=some (.struct (P.fieldsOf T))
 free:P.stoodInHeld T=false
 guard:P.eqGuardType P.depth T=false
 flds : (P.fieldsOf T).toList.map (fun f => (f.name == "_", f.offset, P.underlying f.type)) = (List.range ks.length).map fun i => (false, i, some (if ks[i]! then TypeDesc.bool else .int .i64))
def mj:Value→Option Bool
 | .bool _=>some true
 | .int .i64 _=>some false
 | _=>none
theorem Bo {v:Value} (h:mj v=some true):∃ b,v=.bool b:=by
 unfold mj at h
 split at h
 ·exact ⟨_,rfl⟩
 ·cases h
 ·cases h
theorem yz {v:Value} (h:mj v=some false):∃ n,v=.int .i64 n:=by
 unfold mj at h
 split at h
 ·cases h
 ·exact ⟨_,rfl⟩
 ·cases h
theorem eqFields_self {P : Program} {d : Nat} {cs : Array Value} {w : World} : ∀ (fs : List Field), (∀ f ∈ fs, f.name ≠ "_" ∧ ((P.underlying f.type = some .bool ∧ ∃ x, cs[f.offset]? = some (.bool x)) ∨ (P.underlying f.type = some (.int .i64) ∧ ∃ x, cs[f.offset]? = some (.int .i64 x)))) → (Op.eqFields (d + 1) cs cs fs).run P w = .ok true w
 | [],_=>by simp [Op.eqFields]
 | f::fs,h=>by
  have ih:=eqFields_self (d:=d) (w:=w) fs (fun g hg=>h g (az _ hg))
  obtain ⟨hn,h2⟩:=h f aA
  rcases h2 with ⟨hu,x,hx⟩|⟨hu,x,hx⟩
  ·have hf:∀ w,(isAgg f.type).run P w=.ok false w:=fun w=>by simp [isAgg,run_underlying hu]
   simp only [Op.eqFields,if_pos hn,Sem.run_bind,iV hf hx,Result.andThen_ok,run_equalIn_bool' w d f.type x x hu,beq_self_eq_true,dJ,dF,if_false,ih]
  ·have hf:∀ w,(isAgg f.type).run P w=.ok false w:=fun w=>by simp [isAgg,run_underlying hu]
   simp only [Op.eqFields,if_pos hn,Sem.run_bind,iV hf hx,Result.andThen_ok,run_equalIn_int w d f.type .i64 .i64 x x hu,beq_self_eq_true,dJ,dF,if_false,ih]
theorem uN {P:Program} {T:Nat} {ks:List Bool} [h:TyIB P T ks] {w:World} {d:Nat} {cs:List Value} (hk:cs.map mj=ks.map some) :
  (Op.equalIn (d+2) T (.agg cs.toArray) (.agg cs.toArray)).run P w=.ok true w:=by
 rw [run_equalIn_struct w (d+1) T _ _ h.under h.free]
 refine eqFields_self (P.fieldsOf T).toList (fun f hf=>?_)
 have h6 : (f.name == "_", f.offset, P.underlying f.type) ∈ (List.range ks.length).map fun i => (false, i, some (if ks[i]! then TypeDesc.bool else .int .i64)) := by rw [← h.flds]; exact alStd0List_mem_map_of_mem hf
 obtain ⟨i,hi,he⟩:=List.mem_map.1 h6
 have hi:=List.mem_range.1 hi
 simp only [Prod.mk.injEq] at he
 obtain ⟨e1,e2,e3⟩:=he
 have hcl:cs.length=ks.length:=by have:=congrArg List.length hk;simpa using this
 have hki:mj cs[i]=some ks[i]:=by
  have h7:(cs.map mj)[i]? = (ks.map some)[i]?:=by rw [hk]
  rw [List.getElem?_map,List.getElem?_map,List.getElem?_eq_getElem ab,List.getElem?_eq_getElem hi] at h7
  simpa using h7
 have hkg:ks[i]! = ks[i]:=by rw [List.getElem!_eq_getElem?_getD,List.getElem?_eq_getElem hi];rfl
 have hcg:cs.toArray[f.offset]? = some cs[i]:=by rw [← e2];simp [show i<cs.length by omega]
 rw [hkg] at e3
 refine ⟨by simpa using e1.symm,?_⟩
 cases hb:ks[i] with
 | true =>
  rw [hb] at hki e3
  obtain ⟨x,hx⟩:=Bo hki
  exact .inl ⟨e3.symm,x,by rw [hcg,hx]⟩
 | false =>
  rw [hb] at hki e3
  obtain ⟨x,hx⟩:=yz hki
  exact .inr ⟨e3.symm,x,by rw [hcg,hx]⟩
theorem Ev.y9 {P:Program} {L:List HP} {env:Env} {ty:TypeId} {t yt:TypeId} {x y:Operand} {ks:List Bool} [h:TyIB P t ks] {cs:List Value} (hx:evE env x=some (.agg cs.toArray)) (hy:evE env y=some (.agg cs.toArray)) (hk:cs.map mj=ks.map some) :
  Ev P L env (.binOp .neq t x y yt) ty (.bool false) :=
 Ev.mk (fun θ R _ w ea s _ _ _ _=>by
  have h1:=uN (P:=P) (T:=t) (w:=w) (d:=9998) hk
  simp [execOp,aw ea hx,aw ea hy,run_eqGuard_agg w .neq t x y _ _ h.guard,run_neq_struct,h1])
end Go.V
namespace Go.Proofs.YtfmgkkofledkbaaGreatDoor
section
open Go.V
attribute [local irreducible] G GO GP GPW GPK Ev Ef EfR Ent CB GB V.Enters
abbrev yg:List Stp:=[.ev 0,.ev 1,.ev 2,.ev 3,.ev 4,.ev 5,.ev 6,.ev 7,.ev 8]
theorem jF {φ ψ:Prop} (k:ψ) (h:Hid ψ→φ:=by intro k;(with_reducible apply G.a7);first|refine G.a6 (N:=26) (id:=6) yg mixed aj (Hid.out k)):φ:=h ⟨k⟩
theorem vI {L:List HP} (ad1 ad2:Option Addr) (c1 c2:Nat) (xs:List Lot) [Rds L ad1 Lot aI 3 xs] [Rds L ad2 Lot aI 3 xs] (hl:xs.length≤1000000000) :
  Tri Tryz.prog 197 #[.slice ad1 xs.length c1,.slice ad2 xs.length c2] L (fun v L'=>v=.bool true∧L' = L):=by
 refine Tri.body (args:=[.slice ad1 xs.length c1,.slice ad2 xs.length c2]) 26 Iy Tryz.func197 rfl rfl rfl (by simp) ?_
 repeat first|refine aa ?_|intro _|refine jF ?_
 refine G.loop (α:=Nat) (fun i=>i≤xs.length) (fun i=>[(0,.slice ad1 xs.length c1),(1,.slice ad2 xs.length c2),(5,.int .i64 (i:Int))]) (fun _=>L) (fun i=>xs.length - i) 0 (ap _) ao (Ent.refl _) ?_
 intro i hi
 by_cases hlt:i<xs.length
 case neg =>
  repeat first|refine aa ?_|intro _|refine jF ?_
  exact KX.a6 am (Ent.refl _) ⟨rfl,rfl⟩
 have hii:(i:Int).toNat=i:=ab
 obtain ⟨x,hx⟩:∃ x,xs[i]! = x:=⟨_,rfl⟩
 have hx2:xs[(i:Int).toNat]! = x:=by rw [hii];exact hx
 repeat first|refine aa ?_|intro _|refine jF ?_
 rw [hx2]
 refine GPW.evP (Ev.l9 (xs:=[x.1,x.2.1,x.2.2]) (ys:=[x.1,x.2.1,x.2.2]) (cs:=aI x) (ds:=aI x) (hc:=⟨rfl⟩) (hd:=⟨rfl⟩) rfl rfl rfl rfl) ac ?_
 rw [ay (fun h:¬ [x.1,x.2.1,x.2.2]=[x.1,x.2.1,x.2.2]=>h rfl)]
 repeat first|refine aa ?_|intro _|refine jF ?_
 refine ⟨i+1,ab,ab,?_,Ent.refl _⟩
 rw [aF i]
 exact ao
abbrev yh:List Stp:=[.ev 0,.ev 1,.ev 2,.ev 3,.ev 4,.ev 5,.ev 6,.ev 7,.ev 8,.ev 9,.ev 10]
theorem jE {φ ψ:Prop} (k:ψ) (h:Hid ψ→φ:=by intro k;(with_reducible apply G.a7);first|refine G.a6 (N:=102) (id:=7) yh mixed aj (Hid.out k)):φ:=h ⟨k⟩
theorem yE {L:List HP} (m:FlM) (p1 p2 q1 q2:Option Addr) (a1 a2 b1 b2:Nat) [Rds L p1 Lot aI 3 m.parts] [Rds L p2 Lot aI 3 m.parts] [Rds L q1 Int (encZ .i64) 1 m.made] [Rds L q2 Int (encZ .i64) 1 m.made] (h1:m.parts.length≤1000000000) (h2:m.made.length≤1000000000) :
  Tri Tryz.prog 133 #[.agg (cq ⟨m,p1,a1,q1,b1⟩).toArray,.agg (cq ⟨m,p2,a2,q2,b2⟩).toArray] L (fun v L'=>v=.bool true∧L' = L):=by
 refine Tri.body (args:=[.agg (cq ⟨m,p1,a1,q1,b1⟩).toArray,.agg (cq ⟨m,p2,a2,q2,b2⟩).toArray]) 102 Jq Tryz.func133 rfl rfl rfl (by simp) ?_
 simp only [cq]
 repeat first|refine aa ?_|intro _|refine jE ?_
 refine GO.ef (Ef.a6 (vI p1 p2 a1 a2 m.parts h1) rfl) ac ?_
 rintro _ _ ⟨rfl,rfl⟩
 repeat first|refine aa ?_|intro _|refine jE ?_
 rename_i c1 c2
 refine G.loop (α:=Nat) (fun i=>i≤m.made.length) (fun i=>[(2,.pointer (some ⟨c1,0,none⟩)),(3,.pointer (some ⟨c2,0,none⟩)),(6,.int .i64 (i:Int))]) (fun _=>obj c1 de (cq ⟨m,p1,a1,q1,b1⟩)::obj c2 de (cq ⟨m,p2,a2,q2,b2⟩)::L) (fun i=>m.made.length - i) 0 (ap _) ao (by simp only [cq];exact ai) ?_
 intro i hi
 simp only [cq]
 by_cases hlt:i<m.made.length
 case neg =>
  repeat first|refine aa ?_|intro _|refine jE ?_
  exact KX.a6 am ai ⟨by rw [aO rfl];rfl,rfl⟩
 have hii:(i:Int).toNat=i:=ab
 have hlt' : (i:Int).toNat<m.made.length:=ab
 repeat first|refine aa ?_|intro _|refine jE ?_
 refine ⟨i+1,ab,ab,?_,by exact ai⟩
 rw [aF i]
 exact ao
abbrev AZ:List Stp:=[.ev 0,.ev 1,.ev 2,.ev 3,.ev 4,.ev 5,.ev 6,.ev 7,.ef 8,.ev 9]
theorem jD {φ ψ:Prop} (k:ψ) (h:Hid ψ→φ:=by intro k;(with_reducible apply G.a7);first|refine G.a6 (N:=29) (id:=6) AZ mixed aj (Hid.out k)):φ:=h ⟨k⟩
theorem yF {L:List HP} (ad1 ad2:Option Addr) (n1 n2 c1 c2:Nat) (fs gs:List FlV) [Rds L ad1 FlV cq 11 fs] [Rds L ad2 FlV cq 11 gs] (h1:n1=fs.length) (h2:n2=gs.length) (he:fs.map FlV.m=gs.map FlV.m) (hl:fs.length≤1000000000) (hp:∀ f∈fs,f.m.parts.length≤1000000000∧f.m.made.length≤1000000000) (hA:∀ f∈fs,Ent L (flP f::L)) (hB:∀ f∈gs,Ent L (flP f::L)) :
  Tri Tryz.prog 90 #[.slice ad1 n1 c1,.slice ad2 n2 c2] L (fun v L'=>v=.bool true∧L' = L):=by
 subst h1 h2
 have hgl:gs.length=fs.length:=by have:=congrArg List.length he;simpa using this.symm
 refine Tri.body (args:=[.slice ad1 fs.length c1,.slice ad2 gs.length c2]) 29 en90 Tryz.func90 rfl rfl rfl (by simp) ?_
 repeat first|refine aa ?_|intro _|refine jD ?_
 refine G.loop (α:=Nat) (fun i=>i≤fs.length) (fun i=>[(0,.slice ad1 fs.length c1),(1,.slice ad2 gs.length c2),(5,.int .i64 (i:Int))]) (fun _=>L) (fun i=>fs.length - i) 0 (ap _) ao (Ent.refl _) ?_
 intro i hi
 by_cases hlt:i<fs.length
 case neg =>
  repeat first|refine aa ?_|intro _|refine jD ?_
  exact KX.a6 am (Ent.refl _) ⟨rfl,rfl⟩
 have hii:(i:Int).toNat=i:=ab
 have hf:=aB hlt
 have hg:=aB (show i<gs.length by omega)
 have hm:fs[i]!.m=gs[i]!.m:=by
  have h3:(fs.map FlV.m)[i]! = (gs.map FlV.m)[i]!:=by rw [he]
  rw [fO FlV.m hlt,fO FlV.m ab] at h3
  exact h3
 have hp1:=hp _ hf
 have hA1:=hA _ hf
 have hB1:=hB _ hg
 obtain ⟨f,hfe⟩:∃ f,fs[i]! = f:=⟨_,rfl⟩
 obtain ⟨g,hge⟩:∃ g,gs[i]! = g:=⟨_,rfl⟩
 rw [hfe] at hm hp1 hA1
 rw [hge] at hm hB1
 have hx2:fs[(i:Int).toNat]! = f:=by rw [hii];exact hfe
 have hy2:gs[(i:Int).toNat]! = g:=by rw [hii];exact hge
 obtain ⟨m,p1,a1,q1,b1⟩:=f
 obtain ⟨m2,p2,a2,q2,b2⟩:=g
 dsimp only at hm hp1
 subst hm
 refine G.ent (L':=isl aI 3 p1 m.parts::isl (encZ .i64) 1 q1 m.made::isl aI 3 p2 m.parts::isl (encZ .i64) 1 q2 m.made::L) ?_ ?_
 ·refine hA1.trans (flP_open.trans ?_)
  dsimp only
  refine Ent.trans (B:=isl aI 3 p1 m.parts::isl (encZ .i64) 1 q1 m.made::L) ai ?_
  refine Ent.trans (Ent.a6 (Ent.a6 (hB1.trans flP_open))) ?_
  dsimp only
  exact ai
 repeat first|refine aa ?_|intro _|refine jD ?_
 rw [hx2,hy2]
 refine GPW.ef (Ef.a6 (yE m p1 p2 q1 q2 a1 a2 b1 b2 hp1.1 hp1.2) rfl) ac ?_
 rintro _ _ ⟨rfl,rfl⟩
 repeat first|refine aa ?_|intro _|refine jD ?_
 refine ⟨i+1,ab,ab,?_,by exact ai⟩
 rw [aF i]
 exact ao
end
section
open Go.V
attribute [local irreducible] G GO GP GPW GPK Ev Ef EfR Ent CB GB V.Enters
def hdR (s:RStk):Hd:=(s.acc,s.item,lsum s.stk.lots)
theorem tj {x y z:Hd} (h1:klt x y) (h2:klt y z):klt x z:=by unfold klt at *;omega
structure HdTo (l:List RStk) (i:Nat) (out:List Hd):Prop where
 srt:out.Pairwise klt
 mem:∀ h,h∈out↔(∃ j,j<i∧h=hdR l[j]!)∧h.2.2≠0
 len:out.length≤i
theorem HdTo.zero (l:List RStk):HdTo l 0 []:=⟨List.Pairwise.nil,fun h=>⟨fun q=>(by cases q),fun q=>by obtain ⟨⟨j,hj,_⟩,_⟩:=q;omega⟩,aM _⟩
theorem HdTo.skip {l:List RStk} {i:Nat} {out:List Hd} (h:HdTo l i out) (h0:(hdR l[i]!).2.2=0):HdTo l (i+1) out:=by
 refine ⟨h.srt,fun x=>?_,Nat.le_succ_of_le h.len⟩
 rw [h.mem]
 constructor
 ·rintro ⟨⟨j,hj,e⟩,q⟩
  exact ⟨⟨j,ab,e⟩,q⟩
 ·rintro ⟨⟨j,hj,e⟩,q⟩
  refine ⟨⟨j,?_,e⟩,q⟩
  rcases bP j i with h1|h1
  ·exact h1
  ·obtain rfl:j=i:=ab
   rw [e] at q
   exact absurd h0 q
theorem En {l:List RStk} (hd:jm l) {i j:Nat} (hi:i<l.length) (hj:j<i):¬(l[j]!.acc=l[i]!.acc∧l[j]!.item=l[i]!.item):=by
 intro q
 have h:=List.pairwise_iff_getElem.1 (show (l.map (fun s=>(s.acc,s.item))).Pairwise (·≠·) from hd) j i (by rw [av];omega) (by rw [av];omega) hj
 rw [dC,dC] at h
 rw [getElem!_of hi,getElem!_of ab] at q
 exact h (by rw [q.1,q.2])
theorem HdTo.put {l:List RStk} {i:Nat} {out:List Hd} (h:HdTo l i out) (hi:i<l.length) (hd:jm l) (h0:(hdR l[i]!).2.2≠0) {k:Nat} (hk:k≤out.length) (h1:∀ j,j<k→klt out[j]! (hdR l[i]!)) (h2:k<out.length→¬klt out[k]! (hdR l[i]!)):HdTo l (i+1) (out.take k++[hdR l[i]!]++out.drop k):=by
 have hne:∀ y∈out,¬(y.1=l[i]!.acc∧y.2.1=l[i]!.item):=fun y hy=>by
  obtain ⟨⟨j,hj,rfl⟩,_⟩:=(h.mem y).1 hy
  exact En hd hi hj
 have hafter:∀ y∈out.drop k,klt (hdR l[i]!) y:=fun y hy=>by
  have hkl:k<out.length:=by
   rcases bP k out.length with q|q
   ·exact q
   ·rw [dv q] at hy;cases hy
  have hkk:=h2 hkl
  have hkm:out[k]!∈out:=aB hkl
  have hk2:klt (hdR l[i]!) out[k]!:=by
   have h3:=hne _ hkm
   unfold klt hdR at *
   dsimp only at *
   omega
  rw [cF hkl] at hy
  rcases List.mem_cons.1 hy with e|hy
  ·rw [e,← getElem!_of hkl]
   exact hk2
  ·have h4:(out.drop k).Pairwise klt:=h.srt.sublist (List.drop_sublist _ _)
   rw [cF hkl] at h4
   have h5:=(List.pairwise_cons.1 h4).1 y hy
   rw [← getElem!_of hkl] at h5
   exact tj hk2 h5
 have hbefore:∀ y∈out.take k,klt y (hdR l[i]!):=fun y hy=>by
  obtain ⟨j,hj,e⟩:=List.getElem_of_mem hy
  rw [aQ] at hj
  rw [dK] at e
  rw [← e,← getElem!_of (show j<out.length by omega)]
  exact h1 j ab
 refine ⟨?_,fun x=>?_,?_⟩
 ·rw [aD,List.pairwise_append]
  refine ⟨h.srt.sublist (List.take_sublist _ _),?_,?_⟩
  ·rw [List.singleton_append,List.pairwise_cons]
   exact ⟨hafter,h.srt.sublist (List.drop_sublist _ _)⟩
  ·intro a ha b hb
   rw [List.singleton_append] at hb
   rcases List.mem_cons.1 hb with e|hb
   ·rw [e];exact hbefore a ha
   ·exact tj (hbefore a ha) (hafter b hb)
 ·have hm:x∈out.take k++[hdR l[i]!]++out.drop k↔x∈out∨x=hdR l[i]!:=by
   rw [List.mem_append,List.mem_append,List.mem_singleton]
   have h6:x∈out↔x∈out.take k∨x∈out.drop k:=by rw [← List.mem_append,ei]
   rw [h6]
   constructor
   ·rintro ((q|q)|q)
    ·exact .inl (.inl q)
    ·exact .inr q
    ·exact .inl (.inr q)
   ·rintro ((q|q)|q)
    ·exact .inl (.inl q)
    ·exact .inr q
    ·exact .inl (.inr q)
  rw [hm,h.mem]
  constructor
  ·rintro (⟨⟨j,hj,e⟩,q⟩|e)
   ·exact ⟨⟨j,ab,e⟩,q⟩
   ·exact ⟨⟨i,ab,e⟩,by rw [e];exact h0⟩
  ·rintro ⟨⟨j,hj,e⟩,q⟩
   rcases bP j i with h7|h7
   ·exact .inl ⟨⟨j,h7,e⟩,q⟩
   ·obtain rfl:j=i:=ab
    exact .inr e
 ·have:=h.len
  rw [aC,aC,aQ,List.length_drop,bH]
  omega
theorem nu:∀ {l:List RStk},jm l→∀ s∈l,cR l s.acc s.item=s.stk
 | [],_,_,h=>by cases h
 | u::l,hd,s,h=>by
  unfold jm at hd
  rw [aU,dq] at hd
  unfold cR
  rcases List.mem_cons.1 h with e|h
  ·rw [e,if_pos (show u.acc=u.acc∧u.item=u.item from ⟨rfl,rfl⟩)]
  ·rw [if_neg (fun q=>hd.1 (by
    have h1:(s.acc,s.item)∈l.map (fun s=>(s.acc,s.item)):=alStd0List_mem_map_of_mem h
    rw [show u.acc=s.acc from q.1,show u.item=s.item from q.2]
    exact h1))]
   exact nu (l:=l) hd.2 s h
theorem HdTo.all {S:LedM} {x:RLX} (hF:RF S x) {out:List Hd} (h:HdTo x.stks x.stks.length out):HoldL (balF S) out:=by
 refine ⟨h.srt,fun y=>?_⟩
 rw [h.mem]
 constructor
 ·rintro ⟨⟨j,hj,rfl⟩,q⟩
  refine ⟨?_,q⟩
  show lsum x.stks[j]!.stk.lots=lsum (S.stk x.stks[j]!.acc x.stks[j]!.item)
  rw [← hF.lots,nu hF.dist _ (aB hj)]
 ·rintro ⟨e,q⟩
  refine ⟨?_,q⟩
  have h1:lsum (cR x.stks y.1 y.2.1).lots=y.2.2:=by rw [hF.lots];exact e.symm
  obtain ⟨s,hs,e1,e2⟩:∃ s∈x.stks,s.acc=y.1∧s.item=y.2.1:=by
   have h2:∀ l:List RStk,lsum (cR l y.1 y.2.1).lots≠0→∃ s∈l,s.acc=y.1∧s.item=y.2.1:=by
    intro l
    induction l with
    | nil=>intro q;exact absurd rfl q
    | cons u l ih =>
     intro q
     unfold cR at q
     by_cases hu:u.is y.1 y.2.1
     ·exact ⟨u,aA,hu⟩
     ·rw [if_neg hu] at q
      obtain ⟨s,hs,e⟩:=ih q
      exact ⟨s,az _ hs,e⟩
   exact h2 x.stks (by rw [h1];exact q)
  obtain ⟨j,hj,e3⟩:=List.getElem_of_mem hs
  refine ⟨j,hj,?_⟩
  rw [getElem!_of hj,e3]
  have h3:=nu hF.dist s hs
  rw [e1,e2] at h3
  rw [h3] at h1
  obtain ⟨a,b,c⟩:=y
  show (a,b,c)=(s.acc,s.item,lsum s.stk.lots)
  rw [e1,e2,h1]
abbrev AY:List Stp:=[.ev 0,.ev 1,.ev 2,.ev 3,.ev 4,.ev 5,.ev 6,.ev 7,.ev 8,.ev 9,.ev 10,.ev 11,.ev 12,.ev 13,.ev 14,.ev 15,.ev 16,.ev 17,.ev 18,.ev 19,.ev 20,.ev 21,.ev 22,.ev 23,.ev 24,.ev 25,.ev 26,.ev 27,.ev 28,.ev 29,.ev 30,.ev 31,.ev 32,.ev 33]
theorem da {φ ψ:Prop} (k:ψ) (h:Hid ψ→φ:=by intro k;(with_reducible apply G.a7);first|refine G.a6 (N:=95) (id:=8) AY mixed aj (Hid.out k)):φ:=h ⟨k⟩
theorem sr {L:List HP} (b:Nat) (S:LedM) (hS:S.Ok) (x:RLX) (hF:RF S x) :
  Tri Tryz.prog 92 #[.pointer (some ⟨b,0,none⟩)] (rlL b S.shard x L) (fun v L'=>∃ ad cap hs,v=.slice ad hs.length cap∧(HoldL (balF S) hs∧hs.length≤8388608)∧L' = osl dU 3 tHd ad cap hs::rlL b S.shard x L):=by
 have hfl:=hS.flows
 have hst:=hS.steps
 refine Tri.body (args:=[.pointer (some ⟨b,0,none⟩)]) 95 en92 Tryz.func92 rfl rfl rfl (by simp) ?_
 simp only [rlL,aT]
 have hxl:=hF.len
 have hxf:x.flows.length=S.flows.length:=by rw [← hF.flows];simp
 have hok:=hF.ok
 repeat first|refine aa ?_|intro _|refine da ?_
 refine G.loop (α:=Nat×Option Addr×Nat×List Hd) (fun z=>z.1≤x.stks.length∧HdTo x.stks z.1 z.2.2.2) (fun z=>[(0,.pointer (some ⟨b,0,none⟩)),(3,.slice z.2.1 z.2.2.2.length z.2.2.1),(4,.int .i64 (z.1:Int))]) (fun z=>osl dU 3 tHd z.2.1 z.2.2.1 z.2.2.2::rlL b S.shard x L) (fun z=>x.stks.length - z.1) (0,none,0,[]) ⟨ap _,HdTo.zero _⟩ ao ?_ ?_
 ·dsimp only
  simp only [rlL,aT]
  exact Ent.a7 dU 3 tHd
 rintro ⟨i,ad,cap,out⟩ ⟨hi,hH⟩
 dsimp only at hi hH ⊢
 simp only [rlL,aT]
 have hol:=hH.len
 by_cases hlt:i<x.stks.length
 case neg =>
  obtain rfl:i=x.stks.length:=ab
  repeat first|refine aa ?_|intro _|refine da ?_
  exact KX.a6 am (Ent.refl _) ⟨ad,cap,out,rfl,⟨hH.all hF,ab⟩,rfl⟩
 have hii:(i:Int).toNat=i:=aq i
 have hlt' : (i:Int).toNat<x.stks.length:=ab
 have hm:=aB hlt
 obtain ⟨o1,o2⟩:=hok _ hm
 have hput:=fun h0 k hk h1 h2=>hH.put (k:=k) hlt hF.dist h0 hk h1 h2
 have hskip:=hH.skip
 have hu2:x.stks[(i:Int).toNat]! = x.stks[i]!:=by rw [hii]
 rw [← hu2] at hm o1 o2 hput hskip
 refine G.ent (L':=stkP x.stks[(i:Int).toNat]!.stk::osl dU 3 tHd ad cap out::rlL b S.shard x L) ?_ ?_
 ·simp only [rlL,aT]
  refine (Ent.at (A:=allP rsP x.stks) (Ent.a8 (f:=rsP) hm)).trans ?_
  exact ai
 simp only [rlL,aT]
 repeat first|((fail_if_success (with_reducible refine G.atS 5 ?_));(with_reducible apply G.seq))|refine bu ?_|intro _|refine da ?_
 refine G.a8 (α:=Nat) (fun _=>True) (fun b5=>[(0,.pointer (some ⟨b,0,none⟩)),(3,.slice ad out.length cap),(4,.int .i64 (i:Int)),(5,.pointer (some ⟨b5,0,none⟩))]) (fun b5=>obj b5 tHd (dU (hdR x.stks[(i:Int).toNat]!))::osl dU 3 tHd ad cap out::rlL b S.shard x L) ?_ ?_
 ·refine G.d8 mixed aj ?_
  refine GF.evP (i:=0) rfl aj (Ev.move rfl) ac ?_
  refine GF.evP (i:=1) rfl aj (Ev.nilCheck rfl) ac ?_
  refine GF.evP (i:=2) rfl aj (Ev.fieldAddr rfl) ac ?_
  refine GF.evL (i:=3) rfl aj (Ev.c6 rfl rfl) ac ?_
  refine GF.evP (i:=4) rfl aj (Ev.move rfl) ac ?_
  refine GF.evL (i:=5) rfl aj (Ev.indexAddr rfl rfl ab ab ab) ac ?_
  refine GF.evL (i:=6) rfl aj (Ev.a8 rfl ab) ac ?_
  refine GF.evL (i:=7) rfl aj (Ev.a6 rfl hlt' ac rfl) ac ?_
  refine GF.evP (i:=8) rfl aj (Ev.move rfl) ac ?_
  refine GF.evP (i:=9) rfl aj (Ev.nilCheck rfl) ac ?_
  refine GF.evP (i:=10) rfl aj (Ev.fieldAddr rfl) ac ?_
  refine GF.evL (i:=11) rfl aj (Ev.c6 rfl rfl) ac ?_
  refine GF.evP (i:=12) rfl aj (Ev.move rfl) ac ?_
  refine GF.evL (i:=13) rfl aj (Ev.indexAddr rfl rfl ab ab ab) ac ?_
  refine GF.evL (i:=14) rfl aj (Ev.a8 rfl ab) ac ?_
  refine GF.evL (i:=15) rfl aj (Ev.a6 rfl hlt' ac rfl) ac ?_
  refine GF.evP (i:=16) rfl aj (Ev.move rfl) ac ?_
  refine GF.evP (i:=17) rfl aj (Ev.nilCheck rfl) ac ?_
  refine GF.evP (i:=18) rfl aj (Ev.fieldAddr rfl) ac ?_
  refine GF.evL (i:=19) rfl aj (Ev.c6 rfl rfl) ac ?_
  refine GF.evP (i:=20) rfl aj (Ev.move rfl) ac ?_
  refine GF.evL (i:=21) rfl aj (Ev.indexAddr rfl rfl ab ab ab) ac ?_
  refine GF.evL (i:=22) rfl aj (Ev.a8 rfl ab) ac ?_
  refine GF.evL (i:=23) rfl aj (Ev.a6 rfl hlt' ac rfl) ac ?_
  refine GF.a6 24 26 aj ?_ ?_
  ·refine GE.ef rfl (Ef.a6 (iG x.stks[(i:Int).toNat]!.stk.ad _ x.stks[(i:Int).toNat]!.stk.cap x.stks[(i:Int).toNat]!.stk.lots rfl o1 o2) rfl) ac ?_
   rintro _ _ ⟨rfl,rfl⟩
   refine ⟨(by intro pe hp;simp only [aL,aJ,or_false] at hp;rcases hp with rfl|rfl|rfl|rfl|rfl|rfl|rfl|rfl|rfl|rfl|rfl|rfl<;>first|exact Ev.c6 rfl rfl|exact Ev.a6 rfl hlt' ac rfl|exact Ev.a8 rfl ab|exact Ev.indexAddr rfl rfl ab ab ab),?_⟩
   refine GF.plan [.ev 25,.ef 26,.ef 27] aj rfl ?_
   repeat first|refine aa ?_|intro _|refine da ?_
   exact ⟨_,trivial,ao,by simp only [rlL,aT,dU,hdR];exact ai⟩
  ·refine GE.ef rfl Ef.alloc ac ?_
   rintro _ _ ⟨b5,rfl,rfl⟩
   refine ⟨(by intro pe hp;simp only [aL,aJ,or_false] at hp;rcases hp with rfl|rfl|rfl|rfl|rfl|rfl|rfl|rfl|rfl|rfl|rfl|rfl<;>first|exact Ev.c6 rfl rfl|exact Ev.a6 rfl hlt' ac rfl|exact Ev.a8 rfl ab|exact Ev.indexAddr rfl rfl ab ab ab),?_⟩
   refine GF.plan [.ef 24,.ev 25,.ef 27] aj rfl ?_
   repeat first|refine aa ?_|intro _|refine da ?_
   refine GPW.ef (Ef.a6 (iG x.stks[(i:Int).toNat]!.stk.ad _ x.stks[(i:Int).toNat]!.stk.cap x.stks[(i:Int).toNat]!.stk.lots rfl o1 o2) rfl) ac ?_
   rintro _ _ ⟨rfl,rfl⟩
   repeat first|refine aa ?_|intro _|refine da ?_
   exact ⟨_,trivial,ao,by simp only [rlL,aT,dU,hdR];exact ai⟩
 rintro b5 _
 simp only [rlL,aT]
 obtain ⟨y,hy⟩:∃ y,hdR x.stks[(i:Int).toNat]! = y:=⟨_,rfl⟩
 rw [hy] at hput hskip ⊢
 by_cases h0:y.2.2=0
 ·simp only [dU]
  repeat first|refine aa ?_|intro _|refine da ?_
  refine ⟨(i+1,ad,cap,out),⟨by dsimp only;omega,hskip h0⟩,by dsimp only;omega,?_,by simp only [rlL,aT];exact ai⟩
  dsimp only
  rw [aF i]
  exact ao
 simp only [dU]
 repeat first|refine aa ?_|intro _|refine da ?_
 refine G.loop (α:=Nat) (fun k=>k≤out.length∧∀ j,j<k→klt out[j]! y) (fun k=>[(0,.pointer (some ⟨b,0,none⟩)),(3,.slice ad out.length cap),(4,.int .i64 (i:Int)),(5,.pointer (some ⟨b5,0,none⟩)),(6,.int .i64 (k:Int))]) (fun _=>obj b5 tHd (dU y)::osl dU 3 tHd ad cap out::rlL b S.shard x L) (fun k=>out.length - k) 0 ⟨ap _,fun j hj=>absurd hj (cX j)⟩ ao (by simp only [rlL,aT,dU];exact ai) ?_
 rintro k ⟨hk,hkl⟩
 simp only [rlL,aT,dU]
 have hkk:(k:Int).toNat=k:=aq k
 by_cases hgo:k<out.length∧klt out[k]! y
 ·obtain ⟨hk1,hk2⟩:=hgo
  have hk1' : (k:Int).toNat<out.length:=ab
  have hk2' : klt out[(k:Int).toNat]! y:=by rw [hkk];exact hk2
  have hnx:∀ j,j<k+1→klt out[j]! y:=fun j hj=>by
   rcases bP j k with q|q
   ·exact hkl j q
   ·obtain rfl:j=k:=ab
    exact hk2
  unfold klt at hk2'
  by_cases e1:out[(k:Int).toNat]!.1<y.1
  ·repeat first|refine aa ?_|intro _|refine da ?_
   refine ⟨k+1,⟨ab,hnx⟩,ab,?_,by exact ai⟩
   rw [aF k]
   exact ao
  ·have e2:out[(k:Int).toNat]!.1=y.1:=ab
   have e3:out[(k:Int).toNat]!.2.1<y.2.1:=ab
   repeat first|refine aa ?_|intro _|refine da ?_
   refine ⟨k+1,⟨ab,hnx⟩,ab,?_,by exact ai⟩
   rw [aF k]
   exact ao
 have hstop:k<out.length→¬klt out[k]! y:=fun q1 q2=>hgo ⟨q1,q2⟩
 have hput2:=hput h0 k hk hkl hstop
 refine G.c9 (il (L:=obj b5 tHd [.int .i64 y.1,.int .i64 y.2.1,.int .i64 y.2.2]::osl dU 3 tHd ad cap out::rlL b S.shard x L) (ad:=ad) (cap:=cap) (xs:=out) (enc:=dU) (sz:=3) (E:=tHd)) ?_
 rintro ⟨hcap1,hcap2⟩
 refine G.ent (Ent.a7 dU 3 tHd) ?_
 have hc2:¬(k<out.length∧klt out[k]! y):=hgo
 have hk1:k<out.length→¬out[(k:Int).toNat]!.1<y.1∧¬(out[(k:Int).toNat]!.1=y.1∧out[(k:Int).toNat]!.2.1<y.2.1):=fun q=>by
  have h3:=hstop q
  rw [hkk]
  unfold klt at h3
  exact ⟨fun q2=>h3 (.inl q2),fun q2=>h3 (.inr q2)⟩
 have hdl:out.length - (k:Int).toNat=(out.drop (k:Int).toNat).length:=by rw [List.length_drop]
 have htl:(k:Int).toNat=(out.take (k:Int).toNat).length:=by rw [aQ];omega
 have hfin:HdTo x.stks (i+1) (out.take (k:Int).toNat++[y]++out.drop (k:Int).toNat):=by rw [hkk];exact hput2
 have hroad:(k<out.length∧¬out[(k:Int).toNat]!.1<y.1∧(out[(k:Int).toNat]!.1=y.1∧¬out[(k:Int).toNat]!.2.1<y.2.1))∨(k<out.length∧¬out[(k:Int).toNat]!.1<y.1∧¬out[(k:Int).toNat]!.1=y.1)∨¬k<out.length:=by
  by_cases q:k<out.length
  ·obtain ⟨q1,q2⟩:=hk1 q
   by_cases q3:out[(k:Int).toNat]!.1=y.1
   ·exact .inl ⟨q,q1,q3,fun q4=>q2 ⟨q3,q4⟩⟩
   ·exact .inr (.inl ⟨q,q1,q3⟩)
  ·exact .inr (.inr q)
 have hgo2:(k:Int).toNat<out.length↔k<out.length:=by rw [hkk]
 rcases hroad with ⟨q0,q1,q2,q3⟩|⟨q0,q1,q2⟩|q0
 all_goals
  try have q0':=hgo2.2 q0
  repeat first|refine aa ?_|intro _|refine da ?_
  refine G.d8 mixed aj ?_
  refine GF.evP (i:=0) rfl aj (Ev.move rfl) ac ?_
  refine GF.evP (i:=1) rfl aj (Ev.move rfl) ac ?_
  refine GF.evP (i:=2) rfl aj (Ev.move rfl) ac ?_
  refine GF.evP (i:=3) rfl aj (Ev.l8 rfl rfl ab ab) ac ?_
  refine GF.evL (i:=5) rfl aj (Ev.d8 rfl (by rfl)) ac ?_
  refine GF.evP (i:=8) rfl aj (Ev.move rfl) ac ?_
  refine GF.evP (i:=9) rfl aj (Ev.move rfl) ac ?_
  refine GF.evP (i:=10) rfl aj (Ev.k5 rfl rfl ab ab) ac ?_
  refine GF.a6 4 6 aj ?_ ?_
  ·refine GE.ef rfl (Ef.c6 (xs:=([]:List Hd)) (ys:=out.take (k:Int).toNat) (hq:=Rds.take inferInstance _) rfl rfl rfl rfl htl (fun e _=>iB e) (by rw [bQ,← htl];omega) (by rw [bQ,← htl];omega)) ac ?_
   rintro _ _ ⟨ad1,cap1,rfl,rfl⟩
   refine ⟨(by intro pe hp;simp only [aL,aJ,or_false] at hp;rcases hp with rfl;exact Ev.d8 rfl (by rfl)),?_⟩
   simp only [ah]
   refine GF.plan [.ef 6,.ef 7,.ef 11,.ev 12] aj rfl ?_
   repeat first|refine aa ?_|intro _|refine da ?_
   refine GPW.ef (Ef.a7 (enc:=dU) (e:=y) rfl rfl rfl rfl rfl (by rfl) (iB _) (by rw [← htl];omega) (by rw [← htl];omega)) ac ?_
   rintro _ _ ⟨ad2,cap2,rfl,rfl⟩
   repeat first|refine aa ?_|intro _|refine da ?_
   refine GPW.ef (Ef.c6 (ys:=out.drop (k:Int).toNat) rfl rfl rfl rfl hdl (fun e _=>iB e) (by rw [aC,← htl,← hdl,bH];omega) (by rw [aC,← htl,← hdl,bH];omega)) ac ?_
   rintro _ _ ⟨ad3,cap3,rfl,rfl⟩
   repeat first|refine aa ?_|intro _|refine da ?_
   refine ⟨(i+1,ad3,cap3,out.take (k:Int).toNat++[y]++out.drop (k:Int).toNat),⟨by dsimp only;omega,hfin⟩,by dsimp only;omega,?_,by simp only [rlL,aT];exact ai⟩
   dsimp only
   rw [aF i]
   exact ao
  ·refine GE.ef rfl (Ef.lit rfl rfl ac rfl) ac ?_
   rintro _ _ ⟨b9,rfl,rfl⟩
   refine ⟨(by intro pe hp;simp only [aL,aJ,or_false] at hp;rcases hp with rfl;exact Ev.d8 rfl (by rfl)),?_⟩
   refine GF.plan [.ef 4,.ef 7,.ef 11,.ev 12] aj rfl ?_
   repeat first|refine aa ?_|intro _|refine da ?_
   refine GPW.ef (Ef.c6 (xs:=([]:List Hd)) (ys:=out.take (k:Int).toNat) (hq:=Rds.take inferInstance _) rfl rfl rfl rfl htl (fun e _=>iB e) (by rw [bQ,← htl];omega) (by rw [bQ,← htl];omega)) ac ?_
   rintro _ _ ⟨ad1,cap1,rfl,rfl⟩
   simp only [ah]
   repeat first|refine aa ?_|intro _|refine da ?_
   refine GPW.ef (Ef.a7 (enc:=dU) (e:=y) rfl rfl rfl rfl rfl (by rfl) (iB _) (by rw [← htl];omega) (by rw [← htl];omega)) ac ?_
   rintro _ _ ⟨ad2,cap2,rfl,rfl⟩
   repeat first|refine aa ?_|intro _|refine da ?_
   refine GPW.ef (Ef.c6 (ys:=out.drop (k:Int).toNat) rfl rfl rfl rfl hdl (fun e _=>iB e) (by rw [aC,← htl,← hdl,bH];omega) (by rw [aC,← htl,← hdl,bH];omega)) ac ?_
   rintro _ _ ⟨ad3,cap3,rfl,rfl⟩
   repeat first|refine aa ?_|intro _|refine da ?_
   refine ⟨(i+1,ad3,cap3,out.take (k:Int).toNat++[y]++out.drop (k:Int).toNat),⟨by dsimp only;omega,hfin⟩,by dsimp only;omega,?_,by simp only [rlL,aT];exact ai⟩
   dsimp only
   rw [aF i]
   exact ao
end
section
open Go.V
attribute [local irreducible] G GO GP GPW GPK Ev Ef EfR Ent CB GB V.Enters
instance:TyIB Tryz.prog 72 [false,false,false,false,false,false,false,true,false,false]:=⟨by kernel_rfl,by kernel_rfl,by kernel_rfl,by kernel_rfl⟩
theorem yo {Y:YardM} (h:Y.Ok) (a:Int):(bB Y.jobs a).length≤60:=by
 have h1:=rx Y.jobs a Y.jobs.length
 rw [ry] at h1
 have:=h.len
 omega
abbrev AX:List Stp:=[.ev 0,.ev 1,.ev 2,.ev 3,.ev 5,.ev 6,.ev 7,.ev 8,.ev 9,.ev 10,.ev 11,.ef 4,.ev 12,.ev 13]
abbrev yf:List Stp:=[.ev 0,.ev 1,.ev 2,.ev 3,.ev 5,.ev 6,.ev 7,.ev 8,.ev 9,.ev 10,.ev 11,.ef 4,.ef 12,.ev 13,.ev 14,.ev 15,.ev 17,.ev 18,.ev 19,.ev 20,.ef 16,.ef 21,.ef 22,.ev 23,.ev 24]
theorem dm {φ ψ:Prop} (k:ψ) (h:Hid ψ→φ:=by intro k;(with_reducible apply G.a7);first|refine G.a6 (N:=88) (id:=5) AX mixed aj (Hid.out k)|refine G.a6 (N:=88) (id:=13) yf mixed aj (Hid.out k)):φ:=h ⟨k⟩
theorem BR {L:List HP} (yb lb mb rb:Nat) (Y:YardM) (S:LedM) (hY:Y.Ok) (hS:SrcI S) (hW:se S) (hfew:S.flows.length≤100000) :
  Tri Tryz.prog 40 #[.pointer (some ⟨yb,0,none⟩),.pointer (some ⟨lb,0,none⟩),.pointer (some ⟨mb,0,none⟩)] (cD yb lb Y::LedR lb S::eA mb rb Y::bO rb S::L) (fun v L'=>v=.bool true∧L' = cD yb lb Y::LedR lb S::eA mb rb Y::bO rb S::L):=by
 have hjl:=hY.len
 refine Tri.body (args:=[.pointer (some ⟨yb,0,none⟩),.pointer (some ⟨lb,0,none⟩),.pointer (some ⟨mb,0,none⟩)]) 88 en40 Tryz.func40 rfl rfl rfl (by simp) ?_
 refine G.ent (L':=eA mb rb Y::bO rb S::cD yb lb Y::LedR lb S::L) ai ?_
 refine G.c6 (f:=ryA mb rb Y) ?_
 intro y
 simp only [ryA,ryL,bM,ae,ah]
 have hyc:=fR (yb:=mb) (lb:=rb) (Y:=Y) (L:=cD yb lb Y::LedR lb S::bO rb S::L) y
 simp only [ryL,bM] at hyc
 repeat first|refine aa ?_|intro _|refine dm ?_
 refine G.loop (α:=Nat) (fun i=>i≤Y.jobs.length) (fun i=>[(0,.pointer (some ⟨yb,0,none⟩)),(1,.pointer (some ⟨lb,0,none⟩)),(2,.pointer (some ⟨mb,0,none⟩)),(7,.int .i64 (i:Int))]) (fun _=>obj mb tRY (bM rb Y y)::isl (encZ .u8) 1 y.sad Y.seed::osl aH 10 tRJ y.jad y.jcap Y.jobs::cD yb lb Y::LedR lb S::bO rb S::L) (fun i=>Y.jobs.length - i) 0 (ap _) ao ai ?_
 intro i hi
 by_cases hlt:i<Y.jobs.length
 case pos =>
  have hii:(i:Int).toNat=i:=aq i
  have hlt' : (i:Int).toNat<Y.jobs.length:=ab
  have hjob:=qw (L:=[]) yb lb Y hY i hlt
  rw [show Y.jobs[i]! = Y.jobs[(i:Int).toNat]! by rw [hii]] at hjob
  have hj18:=Bq (L:=[]) Y.jobs[(i:Int).toNat]!
  repeat first|refine aa ?_|intro _|refine dm ?_
  (first|refine GO.ef (Ef.call (hjob) rfl (by repeat (first|exact Ent.refl _|apply Ent.take))) ac ?_)
  rintro _ _ ⟨_,⟨rfl,rfl⟩,hL⟩
  simp only [ae,ah] at hL;subst hL
  repeat first|refine aa ?_|intro _|refine dm ?_
  (first|refine GPW.ef (Ef.call (hj18) rfl (by repeat (first|exact Ent.refl _|apply Ent.take))) ac ?_)
  rintro _ _ ⟨_,⟨rfl,rfl⟩,hL⟩
  simp only [ae,ah] at hL;subst hL
  repeat first|refine aa ?_|intro _|refine dm ?_
  refine GPW.evP (Ev.y9 (cs:=aH Y.jobs[(i:Int).toNat]!) rfl rfl rfl) ac ?_
  repeat first|refine aa ?_|intro _|refine dm ?_
  refine ⟨i+1,ab,ab,?_,by exact ai⟩
  rw [aF i]
  exact ao
 obtain rfl:i=Y.jobs.length:=ab
 repeat first|refine aa ?_|intro _|refine dm ?_
 (first|refine GO.ef (Ef.call (yA (L:=[]) yb lb Y hY Y.jobs.length (aM _) ab) rfl (by repeat (first|exact Ent.refl _|apply Ent.take))) ac ?_)
 rintro _ _ ⟨_,⟨rfl,rfl⟩,hL⟩
 simp only [ae,ah] at hL;subst hL
 repeat first|refine aa ?_|intro _|refine dm ?_
 refine G.loop (α:=Nat) (fun a=>a≤5) (fun a=>[(0,.pointer (some ⟨yb,0,none⟩)),(1,.pointer (some ⟨lb,0,none⟩)),(2,.pointer (some ⟨mb,0,none⟩)),(11,.bool false),(12,.int .i64 (a:Int))]) (fun _=>eA mb rb Y::cD yb lb Y::LedR lb S::bO rb S::L) (fun a=>5 - a) 0 (ap _) ao (Ent.trans ai hyc) ?_
 intro a ha
 by_cases hla:a<5
 case pos =>
  have hopen:=yo hY (a:Int)
  repeat first|refine aa ?_|intro _|refine dm ?_
  (first|refine GO.ef (Ef.call (uz (L:=[]) yb lb Y hY (a:Int)) rfl (by repeat (first|exact Ent.refl _|apply Ent.take))) ac ?_)
  rintro _ _ ⟨_,⟨wad,wcap,rfl,rfl⟩,hL⟩
  simp only [ae,ah] at hL;subst hL
  repeat first|refine aa ?_|intro _|refine dm ?_
  (first|refine GO.ef (Ef.call (tV (L:=[]) mb rb Y hY (a:Int)) rfl (by repeat (first|exact Ent.refl _|apply Ent.take))) ac ?_)
  rintro _ _ ⟨_,⟨wad2,wcap2,rfl,rfl⟩,hL⟩
  simp only [ae,ah] at hL;subst hL
  repeat first|refine aa ?_|intro _|refine dm ?_
  refine GO.ef (Ef.a6 (qY wad wad2 (bB Y.jobs (a:Int)).length (bB Y.jobs (a:Int)).length wcap wcap2 (bB Y.jobs (a:Int)) (bB Y.jobs (a:Int)) rfl rfl ab) rfl) ac ?_
  rintro _ _ ⟨rfl,rfl⟩
  rw [aO rfl]
  repeat first|refine aa ?_|intro _|refine dm ?_
  refine ⟨a+1,ab,ab,?_,by exact ai⟩
  rw [aF a]
  exact ao
 obtain rfl:a=5:=ab
 refine G.c6 (f:=ryA mb rb Y) ?_
 intro y2
 simp only [ryA,ryL,bM,ae,ah]
 refine G.ent (L':=bO rb S::obj mb tRY (bM rb Y y2)::isl (encZ .u8) 1 y2.sad Y.seed::osl aH 10 tRJ y2.jad y2.jcap Y.jobs::cD yb lb Y::LedR lb S::L) ai ?_
 refine G.c6 (f:=gD rb S) ?_
 intro x
 simp only [gD,rlL,aT,bM,ae,ah]
 refine G.c8 ?_
 intro hX
 have hxf:x.flows.length=S.flows.length:=by rw [← hX.flows];simp
 have hsf:=hS.1.flows
 have hss:=hS.1.steps
 repeat first|refine aa ?_|intro _|refine dm ?_
 (first|refine GPW.ef (Ef.call (yD (L:=[]) lb S hW hfew) rfl (by repeat (first|exact Ent.refl _|apply Ent.take))) ac ?_)
 rintro _ _ ⟨_,⟨fad,fcap,fs,rfl,hfs,rfl⟩,hL⟩
 simp only [ae,ah] at hL;subst hL
 have hfl:fs.length=S.flows.length:=by rw [← hfs];simp
 have hfp:∀ f∈fs,f.m.parts.length≤1000000000∧f.m.made.length≤1000000000:=fun f hf=>by
  have:=hW.2 f.m (by rw [← hfs];exact alStd0List_mem_map_of_mem hf)
  omega
 repeat first|refine aa ?_|intro _|refine dm ?_
 refine GPW.ef (Ef.a6 (yF fad x.fad fs.length x.flows.length fcap x.fcap fs x.flows rfl rfl (hfs.trans hX.flows.symm) ab hfp (by intro f hf;exact (Ent.at (A:=allP flP fs) (Ent.a8 (f:=flP) hf)).trans ai) (by intro f hf;exact (Ent.at (A:=allP flP x.flows) (Ent.a8 (f:=flP) hf)).trans ai)) rfl) ac ?_
 rintro _ _ ⟨rfl,rfl⟩
 repeat first|refine aa ?_|intro _|refine dm ?_
 (first|refine GPW.ef (Ef.call (uc (L:=[]) lb S hS hfew) rfl (by repeat (first|exact Ent.refl _|apply Ent.take))) ac ?_)
 rintro _ _ ⟨_,⟨ad1,cap1,hs1,rfl,⟨hh1,hl1⟩,rfl⟩,hL⟩
 simp only [ae,ah] at hL;subst hL
 repeat first|refine aa ?_|intro _|refine dm ?_
 refine GPW.ent (L':=rlL rb S.shard x (osl dU 3 tHd ad1 cap1 hs1::obj mb tRY (bM rb Y y2)::isl (encZ .u8) 1 y2.sad Y.seed::osl aH 10 tRJ y2.jad y2.jcap Y.jobs::cD yb lb Y::LedR lb S::L)) (by simp only [rlL,aT];exact ai) ?_
 refine GPW.ef (Ef.a6 (sr rb S hS.1 x hX) rfl) ac ?_
 rintro _ _ ⟨ad2,cap2,hs2,rfl,⟨hh2,hl2⟩,rfl⟩
 simp only [rlL,aT,bM]
 have e2:hs1=hs2:=hh1.unique hh2 (fun _ _=>rfl)
 repeat first|refine aa ?_|intro _|refine dm ?_
 refine GPW.ef (Ef.a6 (pN ad1 ad2 hs1.length hs2.length cap1 cap2 hs1 hs2 rfl rfl ab) rfl) ac ?_
 rintro _ _ ⟨rfl,rfl⟩
 rw [aO e2]
 repeat first|refine aa ?_|intro _|refine dm ?_
 refine KX.a6 am ?_ ⟨rfl,rfl⟩
 refine Ent.trans (B:=rlL rb S.shard x (ryL mb rb Y y2 (cD yb lb Y::LedR lb S::L))) (by simp only [rlL,aT,ryL,bM];exact ai) ?_
 exact (eH x hX).trans ((Ent.a6 (fR y2)).trans ai)
end
section
open Go.V
attribute [local irreducible] tryM ej fq fD fw
theorem nx {S:LedM} (h:S.Ok) (s:StM):(bz S s).flows.length≤S.flows.length+s.moves.length∧(bz S s).flows.length≤S.flows.length+64:=by
 unfold bz
 split
 ·rename_i he
  obtain ⟨_,h2,_,h4⟩:=lB h fX he
  have h5:=h2.2.2.1.2
  show (S.flows++(tryM S s).2.flows).length≤_∧(S.flows++(tryM S s).2.flows).length≤_
  rw [aC,h4]
  omega
 ·omega
theorem vU {acc tick hold:Int} {S:LedM} (h:S.Ok):∀ k,(gbM acc tick hold S k).flows.length≤S.flows.length+k
 | 0=>aM _
 | k+1=>by
  have ih:=vU (acc:=acc) (tick:=tick) (hold:=hold) h k
  have hO:=(lQ (acc:=acc) (tick:=tick) (hold:=hold) h k).1
  rw [kE]
  unfold gbS
  split
  ·omega
  ·have:=(nx hO (gbT acc tick hold (k:Int) (lsum ((gbM acc tick hold S k).stk hold (k:Int))))).1
   have e:(gbT acc tick hold (k:Int) (lsum ((gbM acc tick hold S k).stk hold (k:Int)))).moves.length=1:=rfl
   omega
theorem FE {S:LedM} (h:S.Ok) (hit:S.cat.items.length=5) (seed:List Int) (j:JobM) (tick:Int):(endJ S seed j tick).1.flows.length≤S.flows.length+133:=by
 unfold endJ
 dsimp only
 obtain ⟨h1,h2,_⟩:=lK h j (fq seed j.id j.times S.cat.rules[j.rule.toNat]!.chance S.cat.rules[j.rule.toNat]!.of_) S.cat.rules[j.rule.toNat]!.take S.cat.rules[j.rule.toNat]!.give j.rule tick
 have f1:(gE S j (fq seed j.id j.times S.cat.rules[j.rule.toNat]!.chance S.cat.rules[j.rule.toNat]!.of_) S.cat.rules[j.rule.toNat]!.take S.cat.rules[j.rule.toNat]!.give j.rule tick).2.flows.length≤S.flows.length+64:=(nx h _).2
 generalize gE S j (fq seed j.id j.times S.cat.rules[j.rule.toNat]!.chance S.cat.rules[j.rule.toNat]!.of_) S.cat.rules[j.rule.toNat]!.take S.cat.rules[j.rule.toNat]!.give j.rule tick=p at *
 obtain ⟨h3,h4,_⟩:=lK h1 j (j.times - fq seed j.id j.times S.cat.rules[j.rule.toNat]!.chance S.cat.rules[j.rule.toNat]!.of_) S.cat.rules[j.rule.toNat]!.take S.cat.rules[j.rule.toNat]!.back (-2 - j.rule) tick
 have f2:(gE p.2 j (j.times - fq seed j.id j.times S.cat.rules[j.rule.toNat]!.chance S.cat.rules[j.rule.toNat]!.of_) S.cat.rules[j.rule.toNat]!.take S.cat.rules[j.rule.toNat]!.back (-2 - j.rule) tick).2.flows.length≤p.2.flows.length+64:=(nx h1 _).2
 generalize gE p.2 j (j.times - fq seed j.id j.times S.cat.rules[j.rule.toNat]!.chance S.cat.rules[j.rule.toNat]!.of_) S.cat.rules[j.rule.toNat]!.take S.cat.rules[j.rule.toNat]!.back (-2 - j.rule) tick=q at *
 have f3:=vU (acc:=j.acc) (tick:=tick) (hold:=j.hold) h3 S.cat.items.length
 omega
theorem Gi {n:Nat} {S:LedM} {Y:YardM} (hI:RunI n S Y) (hn:n≤20) (hit:S.cat.items.length=5) (tick:Int):(advM S Y tick).2.1.flows.length≤S.flows.length+2700:=by
 by_cases ht:cp Y.tick S.now tick
 case neg =>
  rw [ik ht]
  exact Nat.le_add_right _ _
 obtain ⟨ids,hids⟩:=jc Y.jobs tick
 rw [kH ht hids]
 have hil:=hids.len
 have hjl:=hI.len
 have hb:=jI hI.yok ht
 have main:∀ g,g≤ids.length→(advS S Y tick ids g).1.flows.length≤S.flows.length+133*g:=by
  intro g
  induction g with
  | zero=>intro _;exact aM _
  | succ g ih =>
   intro hg
   have j2:=ih ab
   have hA:=lX hI.sok hI.yok hI.rul hb hids g
   rw [po ab]
   generalize advS S Y tick ids g=q at *
   have h3:(endM tick q ids[g]!).1.flows.length≤q.1.flows.length+133:=FE hA.ok (by rw [show q.1.cat=S.cat from hA.cat];exact hit) _ _ _
   omega
 have:=main ids.length (aM _)
 show (advS S Y tick ids ids.length).1.flows.length≤_
 omega
theorem Gh {n:Nat} {S:LedM} {Y:YardM} (hI:RunI n S Y) (hn:n≤20) (hit:S.cat.items.length=5) (o:OpM):(doM S Y o).2.1.flows.length≤S.flows.length+2700:=by
 have hsame:S.flows.length≤S.flows.length+2700:=ab
 have hpost:∀ s,(bz S s).flows.length≤S.flows.length+2700:=fun s=>by have:=(nx hI.sok s).2;omega
 unfold doM
 split
 ·rcases iT S Y o.acc o.b o.a o.c o.tick with ⟨e,_⟩|⟨_,_,_,_,_,e⟩
  ·rw [e];exact hsame
  ·rw [e]
   dsimp only
   split
   ·exact hsame
   ·exact hpost _
 ·split
  ·unfold dD
   split
   ·exact hsame
   ·split
    ·exact hsame
    ·split
     ·exact hsame
     ·split
      ·exact hsame
      ·have:=vU (acc:=o.acc) (tick:=o.tick) (hold:=Y.jobs[o.a.toNat]!.hold) hI.sok S.cat.items.length
       show (gbM o.acc o.tick Y.jobs[o.a.toNat]!.hold S S.cat.items.length).flows.length≤_
       omega
  ·split
   ·exact Gi hI hn hit _
   ·split
    ·unfold du
     split
     ·exact hsame
     ·split
      ·exact hsame
      ·exact hpost _
    ·split
     ·obtain ⟨table,htb⟩:∃ t,o.a / 4=t:=⟨_,rfl⟩
      rw [htb]
      by_cases h1:cg o.acc∧cp Y.tick S.now o.tick
      case neg =>
       rw [jb h1]
       exact hsame
      by_cases h2:0≤table∧table<S.cat.tables.length
      case neg =>
       rw [iA h1.1 h1.2 h2]
       exact hsame
      obtain ⟨p,hp⟩:∃ p,p=fw (fD Y.seed Y.loots) (S.cat.tables[table.toNat]!.rows.map (·.weight)) 0:=⟨_,rfl⟩
      rw [jJ h1.1 h1.2 h2 rfl rfl hp]
      clear hp
      generalize S.cat.tables[table.toNat]!.rows[p.1.toNat]!.give=gv
      by_cases h3:p.2.1=0
      case neg =>
       rw [if_pos h3]
       exact hsame
      rw [if_neg (fun q=>q h3)]
      by_cases h4:gv.length=0
      case pos =>
       rw [if_pos h4]
       exact hsame
      rw [if_neg h4]
      by_cases h5:(tryM S (eX o.acc gv 1 o.tick)).1=0
      case neg =>
       rw [if_pos h5]
       exact hsame
      rw [if_neg (fun q=>q h5)]
      exact hpost _
     ·exact hpost _
attribute [local irreducible] doM
end
section
open Go.V
attribute [local irreducible] doM
def gu (o:OpM):OpM:=⟨o.kind,o.acc,o.a,o.b,o.c,o.tick+100⟩
theorem OpOk.late {o:OpM} (h:OpOk o):OpW (gu o):=⟨h.kind,h.acc,h.a,h.b,h.c⟩
theorem CQ {ops:List OpM} {i:Nat} (h:i<ops.length):(ops.map gu)[i]! = gu ops[i]!:=fO gu h
theorem runW {m:Nat} {S:LedM} {Y:YardM} (h:RunI m S Y) (hf:S.flows.length≤2700*m) (hit:S.cat.items.length=5) {ops:List OpM} (hl:m+ops.length≤21) (ho:∀ o∈ops,OpW o):∀ n,n≤ops.length→RunI (m+n) (runS S Y ops n).1 (runS S Y ops n).2∧(runS S Y ops n).1.cat=S.cat∧(runS S Y ops n).1.flows.length≤2700*(m+n)
 | 0,_=>⟨h,rfl,hf⟩
 | n+1,hn=>by
  obtain ⟨i1,i2,i3⟩:=runW h hf hit hl ho n ab
  rw [ma ab]
  generalize runS S Y ops n=q at *
  have j3:=Gh i1 ab (by rw [i2];exact hit) ops[n]!
  exact ⟨i1.step ab (ho _ (aB ab)),(FJ i1 _).trans i2,ab⟩
end
section
open Go.V
attribute [local irreducible] G GO GP GPW GPK Ev Ef EfR Ent CB GB V.Enters
theorem src2:SrcI (led0 3 cat16):=⟨mT ac,fun _ _ h=>absurd rfl h⟩
theorem Gq:se (led0 3 cat16):=⟨mT ac,fun _ h=>by cases h⟩
structure SeedG where
 ad:Option Addr
 n:Nat
 c:Nat
 xs:List Int
 R:List HP
attribute [local irreducible] doM runS
abbrev AV:List Stp:=[.ev 0,.ev 1,.ev 2,.ev 4,.ev 5,.ef 3,.ef 6,.ef 7,.ev 8]
theorem bA {φ ψ:Prop} (k:ψ) (h:Hid ψ→φ:=by intro k;(with_reducible apply G.a7);first|refine G.a6 (N:=156) (id:=33) AV mixed aj (Hid.out k)):φ:=h ⟨k⟩
theorem ud {L:List HP} (ad0:Option Addr) (n0 c0:Nat) (xs0:List Int) [hr0:Rds L ad0 Int (encZ .u8) 1 xs0] (hn0:n0=xs0.length) (hm0:n0≤9223372036854775807) (hx0:∀ x∈xs0,0≤x∧x≤255) (long:Bool) (k:Int) (hk:I64 k)
  (ad1:Option Addr) (n1 c1:Nat) (xs1:List Int) [hr1:Rds L ad1 Int (encZ .i64) 1 xs1] (hn1:n1=xs1.length) (hm1:n1≤9223372036854775807) (hx1:∀ x∈xs1,I64 x)
  (ad2:Option Addr) (n2 c2:Nat) (xs2:List Int) [hr2:Rds L ad2 Int (encZ .i64) 1 xs2] (hn2:n2=xs2.length) (hm2:n2≤9223372036854775807) (hx2:∀ x∈xs2,I64 x) :
  Tri Tryz.prog 8 #[.slice ad0 n0 c0,.bool long,.int .i64 k,.slice ad1 n1 c1,.slice ad2 n2 c2] (cm::L) (fun v L'=>v=.bool true∧L' = L):=by
 refine Tri.body (args:=[.slice ad0 n0 c0,.bool long,.int .i64 k,.slice ad1 n1 c1,.slice ad2 n2 c2]) 156 en8 Tryz.func8 rfl rfl rfl (by simp) ?_
 repeat first|refine aa ?_|intro _|refine bA ?_
 refine GO.ef (Ef.a6 (jt) rfl) ac ?_
 rintro _ _ ⟨c3,rfl,⟨hc3,hB3⟩,rfl⟩
 repeat first|refine aa ?_|intro _|refine bA ?_
 refine GO.ef (Ef.a6 (oF 0 c3 ac hB3 (hc3▸cat16_good)) rfl) ac ?_
 rintro _ _ ⟨gb,rfl,rfl⟩
 rw [hc3]
 repeat first|((fail_if_success (with_reducible refine G.c7 4 ?_));(with_reducible apply G.seq))|refine bu ?_|intro _|refine bA ?_
 refine G.a8 (α:=SeedG) (fun g=>Rds g.R g.ad Int (encZ .u8) 1 g.xs∧g.n=g.xs.length∧Ent g.R (cm::L)) (fun g=>[(0,.slice g.ad g.n g.c),(2,.int .i64 k),(3,.slice ad1 n1 c1),(4,.slice ad2 n2 c2),(11,.pointer (some ⟨gb,0,none⟩))]) (fun g=>g.R) ?_ ?_
 ·have hmk:=eM k (show (3:Int)≠0 by omega)
  have hml:=eN k (show (0:Int)<3 by omega)
  cases long with
  | false =>
   repeat first|refine aa ?_|intro _|refine bA ?_
   exact ⟨⟨ad0,n0,c0,xs0,cm::L⟩,⟨inferInstance,hn0,Ent.refl _⟩,ao,by exact ai⟩
  | true =>
   repeat first|refine aa ?_|intro _|refine bA ?_
   refine GO.ef (Ef.a6 (pk k 3 hk ac ac) rfl) ac ?_
   rintro _ _ ⟨rfl,rfl⟩
   repeat first|refine aa ?_|intro _|refine bA ?_
   refine GO.ef (Ef.d8 (encZ .u8) (0:Int) rfl rfl rfl ab ab ab ab) ac ?_
   rintro _ _ ⟨bs,rfl,rfl⟩
   repeat first|refine aa ?_|intro _|refine bA ?_
   refine ⟨⟨some ⟨bs,0,none⟩,(4095+k % 3).toNat,(4095+k % 3).toNat,List.replicate (4095+k % 3).toNat 0,osl (encZ .u8) 1 nh (some ⟨bs,0,none⟩) (4095+k % 3).toNat (List.replicate (4095+k % 3).toNat 0)::cm::L⟩,⟨inferInstance,by simp,by exact ai⟩,ao,by exact ai⟩
 rintro ⟨ad,n,c,xs,R⟩ ⟨hrR,hnR,hR⟩
 dsimp only at hrR hnR hR ⊢
 repeat first|refine aa ?_|intro _|refine bA ?_
 refine GO.ef (Ef.a6 (uv gb ad n c xs hnR) rfl) ac ?_
 rintro _ _ ⟨p,kc,rfl,hpk,rfl⟩
 repeat first|((fail_if_success (with_reducible refine G.c7 7 ?_));(with_reducible apply G.seq))|refine bu ?_|intro _|refine bA ?_
 refine G.a8 (α:=Unit) (fun _=>True) (fun _=>[(2,.int .i64 k),(3,.slice ad1 n1 c1),(4,.slice ad2 n2 c2)]) (fun _=>cm::L) ?_ ?_
 ·rcases hpk with ⟨⟨q1,q2⟩,rfl,yb0,rfl⟩|⟨q,rfl,rfl⟩
  ·repeat first|refine aa ?_|intro _|refine bA ?_
   exact ⟨(),trivial,ao,hR⟩
  ·by_cases q1:n<1
   ·repeat first|refine aa ?_|intro _|refine bA ?_
    refine GO.ev (Ev.o8 rfl rfl) ac ?_
    repeat first|refine aa ?_|intro _|refine bA ?_
    exact ⟨(),trivial,ao,hR⟩
   ·have q2:4096<n:=ab
    repeat first|refine aa ?_|intro _|refine bA ?_
    refine GO.ev (Ev.o8 rfl rfl) ac ?_
    repeat first|refine aa ?_|intro _|refine bA ?_
    exact ⟨(),trivial,ao,hR⟩
 rintro _ _
 repeat first|refine aa ?_|intro _|refine bA ?_
 refine GO.ef (Ef.a6 (uu _ _ _) rfl) ac ?_
 rintro _ _ ⟨rfl,rfl⟩
 repeat first|refine aa ?_|intro _|refine bA ?_
 refine GO.ent (L':=cm::L) ai ?_
 refine GO.ef (Ef.a6 (Dj k hk) rfl) ac ?_
 rintro _ _ ⟨yb,lb,mb,rb,sb,c0,rfl,⟨hcm,hB⟩,rfl⟩
 refine GO.ent (L':=cD yb lb (eV (eW k))::LedR lb (led0 3 cat16)::eA mb rb (eV (eW k))::bO rb (led0 3 cat16)::cm::L) ?_ ?_
 ·refine Ent.trans (B:=obj mb tRY [.pointer (some ⟨rb,0,none⟩),.slice (some ⟨sb,0,none⟩) 3 3,.slice none 0 0,.int .i64 0,.int .i64 0]::osl (encZ .u8) 1 nh (some ⟨sb,0,none⟩) 3 (eW k)::obj rb tRL (rl0 3 c0)::catP c0::cD yb lb (eV (eW k))::LedR lb (led0 3 cat16)::cm::L) ai ?_
  refine (zL mb rb sb k).trans ?_
  refine Ent.trans (B:=obj rb tRL (rl0 3 c0)::catP c0::eA mb rb (eV (eW k))::cD yb lb (eV (eW k))::LedR lb (led0 3 cat16)::cm::L) ai ?_
  refine (Cl rb c0 hcm hB).trans ?_
  exact ai
 repeat first|refine aa ?_|intro _|refine bA ?_
 refine GO.ef (Ef.a6 (vw ad1 n1 c1 xs1 hn1 hx1 10 ac) rfl) ac ?_
 rintro _ _ ⟨oad,ocap,ops,rfl,⟨hol,hoo⟩,rfl⟩
 have hinv:=runW (run0 k) (ap _) rfl (ops:=ops) ab (fun o h=>(hoo o h).w)
 have hsrc:=lG (Y:=eV (eW k)) sX src2 (ops:=ops) 10 ab
 have hflo:=lG (Y:=eV (eW k)) rv Gq (ops:=ops) 10 ab
 repeat first|refine aa ?_|intro _|refine bA ?_
 refine G.loop (α:=Nat) (fun i=>i≤10) (fun i=>[(2,.int .i64 k),(4,.slice ad2 n2 c2),(17,.pointer (some ⟨yb,0,none⟩)),(18,.pointer (some ⟨lb,0,none⟩)),(19,.pointer (some ⟨mb,0,none⟩)),(21,.slice oad ops.length ocap),(22,.int .i64 (i:Int))]) (fun i=>cD yb lb (runS (led0 3 cat16) (eV (eW k)) ops i).2::LedR lb (runS (led0 3 cat16) (eV (eW k)) ops i).1::eA mb rb (runS (led0 3 cat16) (eV (eW k)) ops i).2::bO rb (runS (led0 3 cat16) (eV (eW k)) ops i).1::osl dL 6 tOp oad ocap ops::cm::L) (fun i=>10 - i) 0 (ap _) ao (by rw [sV];exact ai) ?_
 intro i hi
 by_cases hlt:i<10
 case pos =>
  have hI:=(hinv i ab).1
  have hlt2:i<ops.length:=ab
  have hsu:=ma (S:=led0 3 cat16) (Y:=eV (eW k)) hlt2
  have hok:=(hoo _ (aB hlt2)).w
  have hii:(i:Int).toNat=i:=aq i
  obtain ⟨q,hq⟩:∃ q,runS (led0 3 cat16) (eV (eW k)) ops i=q:=⟨_,rfl⟩
  rw [hq] at hI hsu ⊢
  obtain ⟨S,Y⟩:=q
  dsimp only at hI hsu ⊢
  have hd:=zm (L:=[]) yb lb Y S hI ops[i]! hok
  have hr:=uY (L:=[]) mb rb Y S hI ops[i]! hok
  obtain ⟨d,hdd⟩:∃ d,doM S Y ops[i]! = d:=⟨_,rfl⟩
  rw [hdd] at hsu hd hr
  have hlt' : (i:Int).toNat<ops.length:=ab
  rw [← hii] at hd hr
  repeat first|refine aa ?_|intro _|refine bA ?_
  (first|refine GO.ef (Ef.call (hd) rfl (by repeat (first|exact Ent.refl _|apply Ent.take))) ac ?_)
  rintro _ _ ⟨_,⟨ad3,cap3,rfl,rfl⟩,hL⟩
  simp only [ae,ah] at hL;subst hL
  repeat first|refine aa ?_|intro _|refine bA ?_
  (first|refine GO.ef (Ef.call (hr) rfl (by repeat (first|exact Ent.refl _|apply Ent.take))) ac ?_)
  rintro _ _ ⟨_,⟨ad4,cap4,rfl,rfl⟩,hL⟩
  simp only [ae,ah] at hL;subst hL
  repeat first|refine aa ?_|intro _|refine bA ?_
  refine ⟨i+1,ab,ab,?_,?_⟩
  ·rw [aF i]
   exact ao
  ·rw [hsu]
   exact ai
 obtain rfl:i=10:=ab
 obtain ⟨hI1,hcat1,hfl1⟩:=hinv 10 ab
 obtain ⟨q,hq⟩:∃ q,runS (led0 3 cat16) (eV (eW k)) ops 10=q:=⟨_,rfl⟩
 rw [hq] at hI1 hcat1 hfl1 hsrc hflo ⊢
 obtain ⟨S1,Y1⟩:=q
 dsimp only at hI1 hcat1 hfl1 hsrc hflo ⊢
 clear hinv
 repeat first|refine aa ?_|intro _|refine bA ?_
 refine GO.ent (L':=LedR lb S1::cD yb lb Y1::eA mb rb Y1::bO rb S1::cm::L) ai ?_
 refine GO.ef (Ef.a6 (yy lb S1 hI1.sok) rfl) ac ?_
 rintro _ _ ⟨vb,rfl,rfl⟩
 repeat first|refine aa ?_|intro _|refine bA ?_
 refine GO.ent (L':=cD yb lb Y1::LedR vb S1::LedW lb S1::eA mb rb Y1::bO rb S1::cm::L) ai ?_
 refine GO.ef (Ef.a6 (qE yb lb vb Y1 hI1.yok) rfl) ac ?_
 rintro _ _ ⟨cb,rfl,rfl⟩
 repeat first|refine aa ?_|intro _|refine bA ?_
 refine GO.ent (L':=LedW lb S1::cD cb vb Y1::LedR vb S1::eA mb rb Y1::bO rb S1::cm::L) ai ?_
 refine GO.ef (Ef.a6 (rJ lb S1 hsrc ab) rfl) ac ?_
 rintro _ _ ⟨had,hcap,hs1,rfl,⟨hh1,hl1⟩,rfl⟩
 repeat first|refine aa ?_|intro _|refine bA ?_
 refine GO.ef (Ef.a6 (vw ad2 n2 c2 xs2 hn2 hx2 10 ac) rfl) ac ?_
 rintro _ _ ⟨pad,pcap,more,rfl,⟨hpl,hpo⟩,rfl⟩
 have hlw:∀ o∈more.map gu,OpW o:=fun o ho=>by
  obtain ⟨u,hu,rfl⟩:=List.mem_map.1 ho
  exact (hpo u hu).late
 have hll:(more.map gu).length=10:=by rw [av];exact hpl
 have hinv:=runW hI1 hfl1 (by rw [hcat1];rfl) (ops:=more.map gu) ab hlw
 have hsrc2:=lG (Y:=Y1) sX hsrc (ops:=more.map gu) 10 ab
 have hflo2:=lG (Y:=Y1) rv hflo (ops:=more.map gu) 10 ab
 repeat first|refine aa ?_|intro _|refine bA ?_
 refine G.loop (α:=Nat) (fun i=>i≤10) (fun i=>[(18,.pointer (some ⟨lb,0,none⟩)),(19,.pointer (some ⟨mb,0,none⟩)),(21,.slice pad more.length pcap),(23,.pointer (some ⟨vb,0,none⟩)),(24,.pointer (some ⟨cb,0,none⟩)),(25,.slice had hs1.length hcap),(26,.int .i64 (i:Int))]) (fun i=>cD cb vb (runS S1 Y1 (more.map gu) i).2::LedR vb (runS S1 Y1 (more.map gu) i).1::eA mb rb (runS S1 Y1 (more.map gu) i).2::bO rb (runS S1 Y1 (more.map gu) i).1::LedW lb S1::osl dU 3 tHd had hcap hs1::osl dL 6 tOp pad pcap more::cm::L) (fun i=>10 - i) 0 (ap _) ao (by rw [sV];exact ai) ?_
 intro i hi
 by_cases hlt:i<10
 case pos =>
  have hI:=(hinv i ab).1
  have hlt2:i<more.length:=ab
  have hsu:=ma (S:=S1) (Y:=Y1) (ops:=more.map gu) (n:=i) ab
  have hok:=(hpo _ (aB hlt2)).late
  rw [CQ hlt2] at hsu
  have hii:(i:Int).toNat=i:=aq i
  obtain ⟨q,hq⟩:∃ q,runS S1 Y1 (more.map gu) i=q:=⟨_,rfl⟩
  rw [hq] at hI hsu ⊢
  obtain ⟨S,Y⟩:=q
  dsimp only at hI hsu ⊢
  have hrl:=FH (S:=S) (o:=gu more[i]!) hI.yok.len
  have hd:=zm (L:=[]) cb vb Y S hI (gu more[i]!) hok
  have hr:=uY (L:=[]) mb rb Y S hI (gu more[i]!) hok
  obtain ⟨d,hdd⟩:∃ d,doM S Y (gu more[i]!)=d:=⟨_,rfl⟩
  rw [hdd] at hrl hsu hd hr
  have hlt' : (i:Int).toNat<more.length:=ab
  have htk:=(hpo _ (aB hlt2)).tick
  rw [← hii] at hd hr htk
  simp only [dL,gu] at hd hr
  repeat first|refine aa ?_|intro _|refine bA ?_
  (first|refine GPW.ef (Ef.call (hd) rfl (by repeat (first|exact Ent.refl _|apply Ent.take))) ac ?_)
  rintro _ _ ⟨_,⟨ad3,cap3,rfl,rfl⟩,hL⟩
  simp only [ae,ah] at hL;subst hL
  repeat first|refine aa ?_|intro _|refine bA ?_
  (first|refine GPW.ef (Ef.call (hr) rfl (by repeat (first|exact Ent.refl _|apply Ent.take))) ac ?_)
  rintro _ _ ⟨_,⟨ad4,cap4,rfl,rfl⟩,hL⟩
  simp only [ae,ah] at hL;subst hL
  repeat first|refine aa ?_|intro _|refine bA ?_
  refine GPW.ef (Ef.a6 (uM d.1 ad3 ad4 cap3 cap4 ab) rfl) ac ?_
  rintro _ _ ⟨rfl,rfl⟩
  repeat first|refine aa ?_|intro _|refine bA ?_
  refine ⟨i+1,ab,ab,?_,?_⟩
  ·rw [aF i]
   exact ao
  ·rw [hsu]
   exact ai
 obtain rfl:i=10:=ab
 obtain ⟨hI2,hcat2,hfl2⟩:=hinv 10 ab
 obtain ⟨q,hq⟩:∃ q,runS S1 Y1 (more.map gu) 10=q:=⟨_,rfl⟩
 rw [hq] at hI2 hcat2 hfl2 hsrc2 hflo2 ⊢
 obtain ⟨S2,Y2⟩:=q
 dsimp only at hI2 hcat2 hfl2 hsrc2 hflo2 ⊢
 repeat first|refine aa ?_|intro _|refine bA ?_
 refine GO.ef (Ef.a6 (BR cb vb mb rb Y2 S2 hI2.yok hsrc2 hflo2 ab) rfl) ac ?_
 rintro _ _ ⟨rfl,rfl⟩
 repeat first|refine aa ?_|intro _|refine bA ?_
 (first|refine GO.ef (Ef.call (rJ (L:=[]) lb S1 hsrc ab) rfl (by repeat (first|exact Ent.refl _|apply Ent.take))) ac ?_)
 rintro _ _ ⟨_,⟨had2,hcap2,hs2,rfl,⟨hh2,hl2⟩,rfl⟩,hL⟩
 simp only [ae,ah] at hL;subst hL
 have e2:hs2=hs1:=hh2.unique hh1 (fun _ _=>rfl)
 repeat first|refine aa ?_|intro _|refine bA ?_
 refine GO.ef (Ef.a6 (pN had2 had hs2.length hs1.length hcap2 hcap hs2 hs1 rfl rfl ab) rfl) ac ?_
 rintro _ _ ⟨rfl,rfl⟩
 rw [aO e2]
 repeat first|refine aa ?_|intro _|refine bA ?_
 refine GO.ent (L':=cm::L) ai ?_
 refine GO.ef (Ef.a6 (vJ) rfl) ac ?_
 rintro _ _ ⟨rfl,rfl⟩
 repeat first|refine aa ?_|intro _|refine bA ?_
 exact KX.a6 am (Ent.refl _) ⟨rfl,rfl⟩
end
end Go.Proofs.YtfmgkkofledkbaaGreatDoor
