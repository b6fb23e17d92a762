/- Lemmas and contracts of functions. -/
import Derived.Test.YtfmgkkofledkbaaGreatDoorGCraftTwos
import Derived.Test.YtfmgkkofledkbaaGreatDoorGCraftTwok
import Derived.Test.YtfmgkkofledkbaaGreatDoorGCraftTwoj
import Derived.Test.YtfmgkkofledkbaaGreatDoorGCraftTwou
import Derived.Test.YtfmgkkofledkbaaGreatDoorGCraftTwocb
import Derived.Test.YtfmgkkofledkbaaGreatDoorGCraftTwoe
import Derived.Test.YtfmgkkofledkbaaGreatDoorGCraftTwob
set_option linter.all false
set_option maxHeartbeats 4000000
namespace Go.Proofs.YtfmgkkofledkbaaGreatDoor
open Go.V
attribute [local irreducible] G GO GP GPW GPK Ev Ef EfR Ent CB GB V.Enters
section
theorem Be {m:List (Int×SlI)} (hn:(m.map (·.1)).Nodup) (a:Int) {L:List HP}:Ent (osl (encZ .i64) 1 tInt (slOf m a).ad (slOf m a).cap (slOf m a).ids::bigO idsP (gera m a)::L) (bigO idsP m::L):=by
 unfold slOf
 cases h:glk m a with
 | none =>
  rw [lZ (kf h)]
  exact Ent.drop
 | some e =>
  have h1:Ent (idsP (a,e)::bigO idsP (gera m a)::L) (bigO idsP ((a,e)::gera m a)::L):=Ent.bigO_cons
  exact h1.trans (Ent.f8 (kD hn h).symm)
theorem tr {L:List HP} (yb lb:Nat) (Y:YardM) (hY:Y.Ok) (a:Int) :
  Tri Tryz.prog 24 #[.pointer (some ⟨yb,0,none⟩),.int .i64 a] (bF yb lb Y::L) (fun v L'=>∃ ad cap,v=.slice ad (aJ Y.jobs a).length cap∧L' = osl (encZ .i64) 1 tInt ad cap (aJ Y.jobs a)::bF yb lb Y::L):=by
 have hjl:=hY.len
 refine Tri.body (args:=[.pointer (some ⟨yb,0,none⟩),.int .i64 a]) 12 en24 Tryz.func24 rfl rfl rfl (by simp) ?_
 refine G.c6 (f:=ej yb lb Y) ?_
 intro x
 simp only [ej,cn,List.cons_append,List.nil_append]
 refine G.c8 ?_
 intro hF
 have hyc:=dm (yb:=yb) (lb:=lb) (Y:=Y) (L:=L) x hF
 simp only [cn] at hyc
 refine G.c9 (fx (b:=x.om)) ?_
 intro hnd
 have hids:=oL hF a
 obtain ⟨sl,hsl⟩:∃ sl,slOf x.m a=sl:=⟨_,rfl⟩
 rw [hsl] at hids
 have hil:sl.ids.length≤60:=by
  rw [hids]
  unfold aJ
  rw [List.length_map]
  have:=List.length_filter_le (fun k=>decide (Y.jobs[k]!.acc=a) && !Y.jobs[k]!.done) (List.range Y.jobs.length)
  rw [List.length_range] at this
  omega
 repeat first|refine aa ?_|intro _
 refine GO.ev (yi rfl hsl rfl rfl) ac ?_
 repeat first|refine aa ?_|intro _
 have hso:=mN (m:=x.m) hnd a (L:=obj yb be (ax lb Y x)::isl (encZ .u8) 1 x.sad Y.seed::osl av 10 tJob x.jad x.jcap Y.jobs::gmap kvI SlI.v x.om x.m::L)
 rw [hsl] at hso
 refine GO.ent (L':=osl (encZ .i64) 1 tInt sl.ad sl.cap sl.ids::bigO idsP (gera x.m a)::obj yb be (ax lb Y x)::isl (encZ .u8) 1 x.sad Y.seed::osl av 10 tJob x.jad x.jcap Y.jobs::gmap kvI SlI.v x.om x.m::L) (Ent.trans ae hso) ?_
 refine GO.ef (Ef.a6 (ia sl.ad sl.ids.length sl.cap sl.ids rfl ab) rfl) ac ?_
 rintro _ _ ⟨ad2,cap2,rfl,rfl⟩
 repeat first|refine aa ?_|intro _
 rw [← hids]
 refine KX.a6 ai ?_ ⟨ad2,cap2,rfl,rfl⟩
 refine Ent.a6 ?_
 refine Ent.trans ?_ hyc
 have hsc:=Be (m:=x.m) hnd a (L:=obj yb be (ax lb Y x)::isl (encZ .u8) 1 x.sad Y.seed::osl av 10 tJob x.jad x.jcap Y.jobs::gmap kvI SlI.v x.om x.m::L)
 rw [hsl] at hsc
 refine hsc.trans ?_
 exact ae
end
section
def job0:JobM:=⟨0,0,0,0,0,0,0,false,0,0⟩
theorem xp {L:List HP} (yb lb:Nat) (Y:YardM) (hY:Y.Ok) (k:Nat) (hk:Y.jobs.length≤k) (hk2:k≤1000000) :
  Tri Tryz.prog 25 #[.pointer (some ⟨yb,0,none⟩),.int .i64 (k:Int)] (bF yb lb Y::L) (fun v L'=>v=.tuple #[.agg (av job0).toArray,.bool false]∧L' = bF yb lb Y::L):=by
 have hl:=hY.len
 refine Tri.body (args:=[.pointer (some ⟨yb,0,none⟩),.int .i64 (k:Int)]) 25 en25 Tryz.func25 rfl rfl rfl (by simp) ?_
 refine G.c6 (f:=ej yb lb Y) ?_
 intro x
 simp only [ej,cn,List.cons_append,List.nil_append]
 refine G.c8 ?_
 intro hF
 have hyc:=dm (yb:=yb) (lb:=lb) (Y:=Y) (L:=L) x hF
 simp only [cn] at hyc
 repeat first|refine aa ?_|intro _
 refine KX.a6 (vs:=[.agg (av job0).toArray,.bool false]) (ResOk.cell rfl (by rfl) (ResOk.tmp rfl ResOk.nil)) (Ent.trans ae hyc) ⟨rfl,rfl⟩
theorem Ar {L:List HP} (j:JobM) :
  Tri Tryz.prog 30 #[.agg (av j).toArray] L (fun v L'=>v=.agg (av j).toArray∧L' = L):=by
 refine Tri.body (args:=[.agg (av j).toArray]) 24 en30 Tryz.func30 rfl rfl rfl (by simp) ?_
 simp only [av]
 repeat first|refine aa ?_|intro _
 exact KX.a6 (by exact ResOk.cell rfl (by rfl) (ResOk.nil)) ae ⟨rfl,rfl⟩
end
section
def gx (js:List JobM) (a:Int) (i:Nat):List Int:=((List.range i).filter (fun k=>decide (js[k]!.acc=a) && !js[k]!.done)).map (fun k:Nat=>(k:Int))
theorem qh (js:List JobM) (a:Int):gx js a js.length=aJ js a:=rfl
theorem Ag {js:List JobM} {a:Int} {i:Nat} (h1:js[i]!.acc=a) (h2:js[i]!.done=false):gx js a (i+1)=gx js a i++[(i:Int)]:=by
 unfold gx
 rw [List.range_succ,List.filter_append,List.map_append,List.filter_cons_of_pos (by simp only [h1,h2,decide_true,Bool.not_false,Bool.and_self])]
 rfl
theorem rP {js:List JobM} {a:Int} {i:Nat} (h:¬js[i]!.acc=a∨js[i]!.done=true):gx js a (i+1)=gx js a i:=by
 unfold gx
 rw [List.range_succ,List.filter_append,List.map_append,List.filter_cons_of_neg (by rcases h with h|h<;>simp only [h,decide_false,Bool.false_and,Bool.not_true,Bool.and_false,Bool.false_eq_true,not_false_eq_true])]
 exact List.append_nil _
theorem qg (js:List JobM) (a:Int) (i:Nat):(gx js a i).length≤i:=by
 unfold gx
 rw [List.length_map]
 have:=List.length_filter_le (fun k=>decide (js[k]!.acc=a) && !js[k]!.done) (List.range i)
 rw [List.length_range] at this
 exact this
theorem sJ {L:List HP} (yb lb:Nat) (Y:YardM) (hY:Y.Ok) (a:Int) :
  Tri Tryz.prog 89 #[.pointer (some ⟨yb,0,none⟩),.int .i64 a] (cZ yb lb Y::L) (fun v L'=>∃ ad cap,v=.slice ad (aJ Y.jobs a).length cap∧L' = osl (encZ .i64) 1 tInt ad cap (aJ Y.jobs a)::cZ yb lb Y::L):=by
 have hjl:=hY.len
 refine Tri.body (args:=[.pointer (some ⟨yb,0,none⟩),.int .i64 a]) 42 en89 Tryz.func89 rfl rfl rfl (by simp) ?_
 refine G.c6 (f:=ryA yb lb Y) ?_
 intro y
 simp only [ryA,ryL,List.cons_append,List.nil_append]
 have hyc:=dU (yb:=yb) (lb:=lb) (Y:=Y) (L:=L) y
 simp only [ryL] at hyc
 repeat first|refine aa ?_|intro _
 refine G.loop (α:=Nat×Option Addr×Nat) (fun g=>g.1≤Y.jobs.length) (fun g=>[(0,.pointer (some ⟨yb,0,none⟩)),(1,.int .i64 a),(5,.slice g.2.1 (gx Y.jobs a g.1).length g.2.2),(6,.int .i64 (g.1:Int))]) (fun g=>osl (encZ .i64) 1 tInt g.2.1 g.2.2 (gx Y.jobs a g.1)::obj yb tRY (aR lb Y y)::isl (encZ .u8) 1 y.sad Y.seed::osl av 10 tRJ y.jad y.jcap Y.jobs::L) (fun g=>Y.jobs.length - g.1) (0,none,0) (Nat.zero_le _) aj (Ent.a7 (encZ .i64) 1 tInt) ?_
 rintro ⟨i,ad,cap⟩ hi
 dsimp only at hi ⊢
 have hol:=qg Y.jobs a i
 by_cases hlt:i<Y.jobs.length
 case neg =>
  obtain rfl:i=Y.jobs.length:=ab
  rw [qh]
  repeat first|refine aa ?_|intro _
  exact KX.a6 ai (Ent.a6 hyc) ⟨ad,cap,rfl,rfl⟩
 have hii:(i:Int).toNat=i:=Int.toNat_natCast i
 have hlt' : (i:Int).toNat<Y.jobs.length:=ab
 by_cases h1:Y.jobs[(i:Int).toNat]!.acc=a
 case neg =>
  have e:=rP (js:=Y.jobs) (a:=a) (i:=i) (.inl (by rw [← hii];exact h1))
  repeat first|refine aa ?_|intro _
  refine ⟨(i+1,ad,cap),by dsimp only;omega,by dsimp only;omega,?_,by dsimp only;rw [e];exact ae⟩
  dsimp only
  rw [e,aq i]
  exact aj
 cases hd:Y.jobs[(i:Int).toNat]!.done with
 | true =>
  have e:=rP (js:=Y.jobs) (a:=a) (i:=i) (.inr (by rw [← hii];exact hd))
  repeat first|refine aa ?_|intro _
  simp only [hd,Bool.not_true]
  repeat first|refine aa ?_|intro _
  refine ⟨(i+1,ad,cap),by dsimp only;omega,by dsimp only;omega,?_,by dsimp only;rw [e];exact ae⟩
  dsimp only
  rw [e,aq i]
  exact aj
 | false =>
  have e:=Ag (js:=Y.jobs) (a:=a) (i:=i) (by rw [← hii];exact h1) (by rw [← hii];exact hd)
  repeat first|refine aa ?_|intro _
  simp only [hd,Bool.not_false]
  repeat first|refine aa ?_|intro _
  refine GO.ef (Ef.a7 (enc:=encZ .i64) (e:=(i:Int)) rfl rfl rfl rfl rfl (by rfl) (by simp [encZ,Value.oneCell']) ab ab) ac ?_
  rintro _ _ ⟨ad2,cap2,rfl,rfl⟩
  repeat first|refine aa ?_|intro _
  rw [← e]
  refine ⟨(i+1,ad2,cap2),by dsimp only;omega,by dsimp only;omega,?_,by exact ae⟩
  dsimp only
  rw [aq i]
  exact aj
end
end Go.Proofs.YtfmgkkofledkbaaGreatDoor
namespace Go.Proofs.YtfmgkkofledkbaaGreatDoor
open Go.V
attribute [local irreducible] tryM
def FewF (F:List FlM):Prop:=∀ f∈F,f.parts.length≤4096∧f.made.length≤1000000
theorem vy {mix:Int→Bool} {W:Wk} {nf:Nat} (hO:W.Ok nf) (m:MvM):(el mix W m).length≤4096:=by
 unfold el
 split
 ·exact Nat.zero_le _
 ·exact Nat.le_trans (gO _ _ _).1 (hO.stk _ _).1
theorem xi {sh:Int} {mix:Int→Bool} {s:StM} {W:Wk} {nf:Nat} (hO:W.Ok nf) (hl:W.flows.length≤1000000) (m:MvM):(dG sh nf mix s W m).parts.length≤4096∧(dG sh nf mix s W m).made.length≤1000000:=by
 refine ⟨vy hO m,?_⟩
 show (cM s W m).length≤_
 unfold cM
 have:=hO.sunk
 split
 ·omega
 ·exact Nat.zero_le _
theorem BI {sh:Int} {mix:Int→Bool} {s:StM} {W:Wk} {nf:Nat} {m:MvM} (hO:W.Ok nf) (hl:W.flows.length≤1000000) (h:FewF W.flows) (he:(ba sh nf mix s W m).1=0):FewF (ba sh nf mix s W m).2.flows:=by
 have hn:=xi (sh:=sh) (mix:=mix) (s:=s) hO hl m
 have hf:FewF (W.flows++[dG sh nf mix s W m]):=fun f hf=>by
  rcases List.mem_append.1 hf with hf|hf
  ·exact h f hf
  ·rw [List.mem_singleton.1 hf]
   exact hn
 unfold ba at he ⊢
 by_cases h1:m.frm≠0∧lsum (W.stk m.frm m.item)<m.n
 ·rw [if_pos h1] at he;exact absurd (show (10:Int)=0 from he) ab
 rw [if_neg h1] at he ⊢
 by_cases h2:bU W m>1099511627776
 ·rw [if_pos h2] at he;exact absurd (show (4:Int)=0 from he) ab
 rw [if_neg h2] at he ⊢
 by_cases h3:m.to=0
 ·rw [if_pos h3]
  exact hf
 rw [if_neg h3] at he ⊢
 by_cases h4:4096≤(bE mix W m m.to m.item).length
 ·rw [if_pos h4] at he;exact absurd (show (4:Int)=0 from he) ab
 rw [if_neg h4]
 exact hf
theorem ql {sh:Int} {nf:Nat} {mix:Int→Bool} {s:StM} (hsh:0≤sh):∀ (ms:List MvM) (W:Wk),W.Ok nf→W.flows.length+ms.length≤1000000→(∀ m∈ms,1≤m.n∧m.n≤1099511627776)→FewF W.flows→(bK sh nf mix s W ms).1=0→FewF (bK sh nf mix s W ms).2.flows
 | [],_,_,_,_,h,_=>h
 | m::ms,W,hO,hl,hn,h,he=>by
  rw [List.length_cons] at hl
  have e:bK sh nf mix s W (m::ms)=if (ba sh nf mix s W m).1=0 then bK sh nf mix s (ba sh nf mix s W m).2 ms else ((ba sh nf mix s W m).1,W):=rfl
  rw [e] at he ⊢
  by_cases h1:(ba sh nf mix s W m).1=0
  ·rw [if_pos h1] at he ⊢
   obtain ⟨h2,h3⟩:=ic hO dz (hn m List.mem_cons_self) hsh h1
   exact ql hsh ms _ h2 (by rw [h3];omega) (fun x hx=>hn x (List.mem_cons_of_mem _ hx)) (BI hO ab h h1) he
  ·rw [if_neg h1] at he
   exact absurd he h1
def qN (S:LedM):Prop:=S.Ok∧FewF S.flows
theorem za (S:LedM) (s:StM) (h:qN S):qN (aG S s):=by
 refine ⟨eY h.1 dz,?_⟩
 unfold aG
 split
 ·rename_i he
  obtain ⟨h1,h2,_⟩:=gI h.1 dz he
  have e:tryM S s=bK S.shard S.flows.length (bN S.cat) (s.at (aB S)) (wk0 S) s.moves:=by
   unfold tryM
   rw [if_neg ab,if_neg (fun q=>q h2)]
  have hl:=h2.2.2.1.2
  show FewF (S.flows++(tryM S s).2.flows)
  intro f hf
  rcases List.mem_append.1 hf with hf|hf
  ·exact h.2 f hf
  ·rw [e] at he hf
   refine ql h.1.shard.1 s.moves (wk0 S) (jT h.1) (by show 0+s.moves.length≤_;omega) (fun m hm=>?_) (fun _ q=>by cases q) he f hf
   have h4:=h2.2.2.2.1 m hm
   unfold dq at h4
   rw [cp] at h4
   exact (of_decide_eq_true h4).2.1
 ·exact h.2
end Go.Proofs.YtfmgkkofledkbaaGreatDoor
namespace Go.Proofs.YtfmgkkofledkbaaGreatDoor
open Go.V
attribute [local irreducible] G GO GP GPW GPK Ev Ef EfR Ent CB GB V.Enters
section
theorem flP_open {f:FlV} {L:List HP}:Ent (flP f::L) (isl aw 3 f.pad f.m.parts::isl (encZ .i64) 1 f.mad f.m.made::flP f::L):=(Ent.dup (me f).pers).trans Ent.andE
abbrev xa:List Stp:=[.ev 0,.ev 1,.ev 3,.ev 4,.ef 2,.ev 6,.ef 5,.ef 7,.ev 8,.ef 9]
theorem jE {φ ψ:Prop} (k:ψ) (h:Hid ψ→φ:=by intro k;(with_reducible apply G.a7);first|refine G.a6 (N:=12) (id:=1) xa mixed ah (Hid.out k)):φ:=h ⟨k⟩
theorem xK {L:List HP} (f:FlV) (h1:f.m.parts.length≤1000000) (h2:f.m.made.length≤1000000) :
  Tri Tryz.prog 135 #[.agg (bG f).toArray] (flP f::L) (fun v L'=>∃ f',v=.agg (bG f').toArray∧f'.m=f.m∧L' = flP f'::flP f::L):=by
 obtain ⟨⟨i1,i2,i3,i4,i5,i6,i7,i8,i9,parts,made⟩,pad,pcap,mad,mcap⟩:=f
 dsimp only at h1 h2
 refine Tri.body (args:=[.agg (bG ⟨⟨i1,i2,i3,i4,i5,i6,i7,i8,i9,parts,made⟩,pad,pcap,mad,mcap⟩).toArray]) 12 In Tryz.func135 rfl rfl rfl (by simp) ?_
 refine G.ent flP_open ?_
 dsimp only
 repeat first|refine aa ?_|intro _|refine jE ?_
 refine GPW.ef (Ef.a6 (jF pad parts.length pcap parts rfl h1) rfl) ac ?_
 rintro _ _ ⟨ad',cap',rfl,rfl⟩
 repeat first|refine aa ?_|intro _|refine jE ?_
 refine GPW.ef (Ef.a6 (ia mad made.length mcap made rfl h2) rfl) ac ?_
 rintro _ _ ⟨ad2,cap2,rfl,rfl⟩
 repeat first|refine aa ?_|intro _|refine jE ?_
 refine KX.a6 (by exact ResOk.cell rfl (by rfl) (ResOk.nil)) ?_ ⟨⟨⟨i1,i2,i3,i4,i5,i6,i7,i8,i9,parts,made⟩,ad',cap',ad2,cap2⟩,rfl,rfl,rfl⟩
 refine (Ent.frz ad').trans ((Ent.frz ad2).trans ?_)
 refine Ent.trans (B:=isl aw 3 ad' parts::isl (encZ .i64) 1 ad2 made::flP ⟨⟨i1,i2,i3,i4,i5,i6,i7,i8,i9,parts,made⟩,pad,pcap,mad,mcap⟩::L) ae ?_
 exact Ent.d8 (bu _ _ _ _) (bu _ _ _ _)
def fl0:FlV:=⟨⟨0,0,0,0,0,0,0,0,0,[],[]⟩,none,0,none,0⟩
theorem xD {L:List HP} (ad:Option Addr) (c:Nat) (ms:List FlV) (hl:ms.length≤100000) (hp:∀ m∈ms,m.m.parts.length≤1000000∧m.m.made.length≤1000000) :
  Tri Tryz.prog 134 #[.slice ad ms.length c,.func (.func 135) #[] #[]] (osl bG 11 cy ad c ms::allP flP ms::L) (fun v L'=>∃ ad' c' ms',v=.slice ad' ms'.length c'∧ms'.map (·.m)=ms.map (·.m)∧L' = isl bG 11 ad' ms'::allP flP ms'::osl bG 11 cy ad c ms::allP flP ms::L):=by
 refine Tri.body (args:=[.slice ad ms.length c,.func (.func 135) #[] #[]]) 29 Io Tryz.func134 rfl rfl rfl (by simp) ?_
 by_cases h0:ms.length=0
 ·have e:ms=[]:=List.eq_nil_of_length_eq_zero h0
  subst e
  repeat first|refine aa ?_|intro _
  exact KX.a6 ai ((Ent.c7 flP).trans (Ent.c8 bG 11 none)) ⟨none,0,[],rfl,rfl,rfl⟩
 repeat first|refine aa ?_|intro _
 refine GO.ef (Ef.d9 bG fl0 rfl rfl rfl ab ab ab ab) ac ?_
 rintro _ _ ⟨bs,rfl,rfl⟩
 rw [show (ms.length:Int).toNat=ms.length by omega]
 repeat first|refine aa ?_|intro _
 refine G.loop (α:=Nat×List FlV) (fun z=>z.1≤ms.length∧z.2.length=ms.length∧(z.2.take z.1).map (·.m)=(ms.take z.1).map (·.m)) (fun z=>[(1,.func (.func 135) #[] #[]),(5,.slice (some ⟨bs,0,none⟩) ms.length ms.length),(14,.slice ad ms.length c),(15,.int .i64 (ms.length:Int)),(16,.int .i64 (z.1:Int))])
  (fun z=>osl bG 11 cy (some ⟨bs,0,none⟩) ms.length z.2::allP flP (z.2.take z.1)::osl bG 11 cy ad c ms::allP flP ms::L) (fun z=>ms.length - z.1) (0,List.replicate ms.length fl0) ⟨Nat.zero_le _,by simp,by simp⟩ aj ?_ ?_
 ·dsimp only
  rw [List.take_zero]
  refine (Ent.c7 flP).trans ?_
  exact ae
 rintro ⟨i,zs⟩ ⟨hi,hzl,hze⟩
 dsimp only at hi hzl hze ⊢
 by_cases hlt:i<ms.length
 case neg =>
  have hie:i=ms.length:=ab
  subst hie
  rw [List.take_of_length_le ab,List.take_of_length_le ab] at hze
  rw [List.take_of_length_le (show zs.length≤ms.length by omega)]
  repeat first|refine aa ?_|intro _
  refine KX.a6 ai (Ent.freezeSl) ⟨some ⟨bs,0,none⟩,ms.length,zs,by rw [hzl];rfl,hze,rfl⟩
 have hii:(i:Int).toNat=i:=ab
 have hmm:ms[i]!∈ms:=ap hlt
 have hpm:=hp _ hmm
 repeat first|refine aa ?_|intro _
 rw [hii]
 refine GO.ent (Ent.at (A:=allP flP ms) (Ent.a8 (x:=ms[i]!) hmm)) ?_
 refine GO.ef (Ef.a8 rfl rfl (xK ms[i]! hpm.1 hpm.2)) ac ?_
 rintro _ _ ⟨m',rfl,hm',rfl⟩
 repeat first|refine aa ?_|intro _
 refine GO.efu (Ef.d8 (e:=m') rfl rfl (by rfl) (by rfl) (ix _) ab) ?_
 rintro _ _ rfl
 rw [hii]
 repeat first|refine aa ?_|intro _
 refine ⟨(i+1,zs.set i m'),⟨by dsimp only;omega,by dsimp only;simp;omega,?_⟩,by dsimp only;omega,?_,?_⟩
 ·dsimp only
  rw [de ab,List.take_succ_eq_append_getElem hlt,List.map_append,List.map_append,hze,← getElem!_of hlt]
  simp [hm']
 ·dsimp only
  rw [aq i]
  exact aj
 ·dsimp only
  rw [de ab]
  refine Ent.a6 ?_
  refine Ent.trans (B:=allP flP (zs.take i)::flP m'::osl bG 11 cy ad c ms::allP flP ms::L) ae ?_
  exact (Ent.a6 (Ent.d9 me)).trans (Ent.e8 me)
theorem xt {L:List HP} (b:Nat) (S:LedM) (hS:qN S) (hfl:S.flows.length≤100000) :
  Tri Tryz.prog 91 #[.pointer (some ⟨b,0,none⟩)] (LedR b S::L) (fun v L'=>∃ ad cap fs,v=.slice ad fs.length cap∧fs.map FlV.m=S.flows∧L' = isl bG 11 ad fs::allP flP fs::LedR b S::L):=by
 refine Tri.body (args:=[.pointer (some ⟨b,0,none⟩)]) 8 en91 Tryz.func91 rfl rfl rfl (by simp) ?_
 refine G.c6 (f:=ledA b S) ?_
 intro x
 simp only [ledA,ledL,bQ,List.cons_append,List.nil_append]
 refine G.c8 ?_
 intro hF
 have hxl:x.flows.length=S.flows.length:=by rw [← hF.flows];simp
 have hpp:∀ m∈x.flows,m.m.parts.length≤1000000∧m.m.made.length≤1000000:=fun m hm=>by
  have:=hS.2 m.m (by rw [← hF.flows];exact List.mem_map_of_mem hm)
  omega
 repeat first|refine aa ?_|intro _
 refine GO.ent (Ent.at (A:=osl bG 11 cy x.fad x.fcap x.flows) (Ent.a6 (Ent.at (A:=allP flP x.flows) (Ent.refl _)))) ?_
 refine GO.ef (Ef.a6 (xD x.fad x.fcap x.flows ab hpp) rfl) ac ?_
 rintro _ _ ⟨ad',c',fs,rfl,hfs,rfl⟩
 repeat first|refine aa ?_|intro _
 refine KX.a6 ai ?_ ⟨ad',c',fs,rfl,hfs.trans hF.flows,rfl⟩
 refine Ent.trans ?_ (Ent.a6 (Ent.a6 (fE x hF)))
 simp only [ledL]
 exact ae
end
end Go.Proofs.YtfmgkkofledkbaaGreatDoor
namespace Go.V
class TyIB (P:Program) (T:Nat) (ks:outParam (List Bool)):Prop where
 under:P.underlying T=some (.struct (P.fieldsOf T))
 free:P.stoodInHeld T=false
 guard:P.eqGuardType P.depth T=false
 flds : (P.fieldsOf T).toList.map (fun f => (f.name == "_", f.offset, P.underlying f.type)) = (List.range ks.length).map fun i => (false, i, some (if ks[i]! then TypeDesc.bool else .int .i64))
def kA:Value→Option Bool
 | .bool _=>some true
 | .int .i64 _=>some false
 | _=>none
theorem Ap {v:Value} (h:kA v=some true):∃ b,v=.bool b:=by
 unfold kA at h
 split at h
 ·exact ⟨_,rfl⟩
 ·cases h
 ·cases h
theorem xo {v:Value} (h:kA v=some false):∃ n,v=.int .i64 n:=by
 unfold kA at h
 split at h
 ·cases h
 ·exact ⟨_,rfl⟩
 ·cases h
theorem eqFields_self {P : Program} {d : Nat} {cs : Array Value} {w : World} : ∀ (fs : List Field), (∀ f ∈ fs, f.name ≠ "_" ∧ ((P.underlying f.type = some .bool ∧ ∃ x, cs[f.offset]? = some (.bool x)) ∨ (P.underlying f.type = some (.int .i64) ∧ ∃ x, cs[f.offset]? = some (.int .i64 x)))) → (Op.eqFields (d + 1) cs cs fs).run P w = .ok true w
 | [],_=>by simp [Op.eqFields]
 | f::fs,h=>by
  have ih:=eqFields_self (d:=d) (w:=w) fs (fun g hg=>h g (List.mem_cons_of_mem _ hg))
  obtain ⟨hn,h2⟩:=h f List.mem_cons_self
  rcases h2 with ⟨hu,x,hx⟩|⟨hu,x,hx⟩
  ·have hf:∀ w,(isAgg f.type).run P w=.ok false w:=fun w=>by simp [isAgg,run_underlying hu]
   simp only [Op.eqFields,if_pos hn,Sem.run_bind,gq hf hx,Result.andThen_ok,run_equalIn_bool' w d f.type x x hu,beq_self_eq_true,Bool.not_true,Bool.false_eq_true,if_false,ih]
  ·have hf:∀ w,(isAgg f.type).run P w=.ok false w:=fun w=>by simp [isAgg,run_underlying hu]
   simp only [Op.eqFields,if_pos hn,Sem.run_bind,gq hf hx,Result.andThen_ok,run_equalIn_int w d f.type .i64 .i64 x x hu,beq_self_eq_true,Bool.not_true,Bool.false_eq_true,if_false,ih]
theorem tF {P:Program} {T:Nat} {ks:List Bool} [h:TyIB P T ks] {w:World} {d:Nat} {cs:List Value} (hk:cs.map kA=ks.map some) :
  (Op.equalIn (d+2) T (.agg cs.toArray) (.agg cs.toArray)).run P w=.ok true w:=by
 rw [run_equalIn_struct w (d+1) T _ _ h.under h.free]
 refine eqFields_self (P.fieldsOf T).toList (fun f hf=>?_)
 have h6 : (f.name == "_", f.offset, P.underlying f.type) ∈ (List.range ks.length).map fun i => (false, i, some (if ks[i]! then TypeDesc.bool else .int .i64)) := by rw [← h.flds]; exact List.mem_map_of_mem hf
 obtain ⟨i,hi,he⟩:=List.mem_map.1 h6
 have hi:=List.mem_range.1 hi
 simp only [Prod.mk.injEq] at he
 obtain ⟨e1,e2,e3⟩:=he
 have hcl:cs.length=ks.length:=by have:=congrArg List.length hk;simpa using this
 have hki:kA cs[i]=some ks[i]:=by
  have h7:(cs.map kA)[i]? = (ks.map some)[i]?:=by rw [hk]
  rw [List.getElem?_map,List.getElem?_map,List.getElem?_eq_getElem ab,List.getElem?_eq_getElem hi] at h7
  simpa using h7
 have hkg:ks[i]! = ks[i]:=by rw [List.getElem!_eq_getElem?_getD,List.getElem?_eq_getElem hi];rfl
 have hcg:cs.toArray[f.offset]? = some cs[i]:=by rw [← e2];simp [show i<cs.length by omega]
 rw [hkg] at e3
 refine ⟨by simpa using e1.symm,?_⟩
 cases hb:ks[i] with
 | true =>
  rw [hb] at hki e3
  obtain ⟨x,hx⟩:=Ap hki
  exact .inl ⟨e3.symm,x,by rw [hcg,hx]⟩
 | false =>
  rw [hb] at hki e3
  obtain ⟨x,hx⟩:=xo hki
  exact .inr ⟨e3.symm,x,by rw [hcg,hx]⟩
theorem Ev.y6 {P:Program} {L:List HP} {env:Env} {ty:TypeId} {t yt:TypeId} {x y:Operand} {ks:List Bool} [h:TyIB P t ks] {cs:List Value} (hx:evE env x=some (.agg cs.toArray)) (hy:evE env y=some (.agg cs.toArray)) (hk:cs.map kA=ks.map some) :
  Ev P L env (.binOp .neq t x y yt) ty (.bool false) :=
 Ev.mk (fun θ R _ w ea s _ _ _ _=>by
  have h1:=tF (P:=P) (T:=t) (w:=w) (d:=9998) hk
  simp [execOp,an ea hx,an ea hy,run_eqGuard_agg w .neq t x y _ _ h.guard,run_neq_struct,h1])
end Go.V
namespace Go.Proofs.YtfmgkkofledkbaaGreatDoor
open Go.V
attribute [local irreducible] G GO GP GPW GPK Ev Ef EfR Ent CB GB V.Enters
section
abbrev wY:List Stp:=[.ev 0,.ev 1,.ev 2,.ev 3,.ev 4,.ev 5,.ev 6,.ev 7,.ev 8]
theorem hU {φ ψ:Prop} (k:ψ) (h:Hid ψ→φ:=by intro k;(with_reducible apply G.a7);first|refine G.a6 (N:=26) (id:=6) wY mixed ah (Hid.out k)):φ:=h ⟨k⟩
theorem uD {L:List HP} (ad1 ad2:Option Addr) (c1 c2:Nat) (xs:List Lot) [Rds L ad1 Lot aw 3 xs] [Rds L ad2 Lot aw 3 xs] (hl:xs.length≤1000000000) :
  Tri Tryz.prog 197 #[.slice ad1 xs.length c1,.slice ad2 xs.length c2] L (fun v L'=>v=.bool true∧L' = L):=by
 refine Tri.body (args:=[.slice ad1 xs.length c1,.slice ad2 xs.length c2]) 26 Hw Tryz.func197 rfl rfl rfl (by simp) ?_
 repeat first|refine aa ?_|intro _|refine hU ?_
 refine G.loop (α:=Nat) (fun i=>i≤xs.length) (fun i=>[(0,.slice ad1 xs.length c1),(1,.slice ad2 xs.length c2),(5,.int .i64 (i:Int))]) (fun _=>L) (fun i=>xs.length - i) 0 (Nat.zero_le _) aj (Ent.refl _) ?_
 intro i hi
 by_cases hlt:i<xs.length
 case neg =>
  repeat first|refine aa ?_|intro _|refine hU ?_
  exact KX.a6 ai (Ent.refl _) ⟨rfl,rfl⟩
 have hii:(i:Int).toNat=i:=ab
 obtain ⟨x,hx⟩:∃ x,xs[i]! = x:=⟨_,rfl⟩
 have hx2:xs[(i:Int).toNat]! = x:=by rw [hii];exact hx
 repeat first|refine aa ?_|intro _|refine hU ?_
 rw [hx2]
 refine GPW.evP (Ev.l9 (xs:=[x.1,x.2.1,x.2.2]) (ys:=[x.1,x.2.1,x.2.2]) (cs:=aw x) (ds:=aw x) (hc:=⟨rfl⟩) (hd:=⟨rfl⟩) rfl rfl rfl rfl) ac ?_
 rw [ao (fun h:¬ [x.1,x.2.1,x.2.2]=[x.1,x.2.1,x.2.2]=>h rfl)]
 repeat first|refine aa ?_|intro _|refine hU ?_
 refine ⟨i+1,ab,ab,?_,Ent.refl _⟩
 rw [aq i]
 exact aj
abbrev wZ:List Stp:=[.ev 0,.ev 1,.ev 2,.ev 3,.ev 4,.ev 5,.ev 6,.ev 7,.ev 8,.ev 9,.ev 10]
theorem hJ {φ ψ:Prop} (k:ψ) (h:Hid ψ→φ:=by intro k;(with_reducible apply G.a7);first|refine G.a6 (N:=102) (id:=7) wZ mixed ah (Hid.out k)):φ:=h ⟨k⟩
theorem xu {L:List HP} (m:FlM) (p1 p2 q1 q2:Option Addr) (a1 a2 b1 b2:Nat) [Rds L p1 Lot aw 3 m.parts] [Rds L p2 Lot aw 3 m.parts] [Rds L q1 Int (encZ .i64) 1 m.made] [Rds L q2 Int (encZ .i64) 1 m.made] (h1:m.parts.length≤1000000000) (h2:m.made.length≤1000000000) :
  Tri Tryz.prog 133 #[.agg (bG ⟨m,p1,a1,q1,b1⟩).toArray,.agg (bG ⟨m,p2,a2,q2,b2⟩).toArray] L (fun v L'=>v=.bool true∧L' = L):=by
 refine Tri.body (args:=[.agg (bG ⟨m,p1,a1,q1,b1⟩).toArray,.agg (bG ⟨m,p2,a2,q2,b2⟩).toArray]) 102 Ip Tryz.func133 rfl rfl rfl (by simp) ?_
 simp only [bG]
 repeat first|refine aa ?_|intro _|refine hJ ?_
 refine GO.ef (Ef.a6 (uD p1 p2 a1 a2 m.parts h1) rfl) ac ?_
 rintro _ _ ⟨rfl,rfl⟩
 repeat first|refine aa ?_|intro _|refine hJ ?_
 rename_i c1 c2
 refine G.loop (α:=Nat) (fun i=>i≤m.made.length) (fun i=>[(2,.pointer (some ⟨c1,0,none⟩)),(3,.pointer (some ⟨c2,0,none⟩)),(6,.int .i64 (i:Int))]) (fun _=>obj c1 cy (bG ⟨m,p1,a1,q1,b1⟩)::obj c2 cy (bG ⟨m,p2,a2,q2,b2⟩)::L) (fun i=>m.made.length - i) 0 (Nat.zero_le _) aj (by simp only [bG];exact ae) ?_
 intro i hi
 simp only [bG]
 by_cases hlt:i<m.made.length
 case neg =>
  repeat first|refine aa ?_|intro _|refine hJ ?_
  exact KX.a6 ai ae ⟨by rw [ay rfl];rfl,rfl⟩
 have hii:(i:Int).toNat=i:=ab
 have hlt' : (i:Int).toNat<m.made.length:=ab
 repeat first|refine aa ?_|intro _|refine hJ ?_
 refine ⟨i+1,ab,ab,?_,by exact ae⟩
 rw [aq i]
 exact aj
abbrev Aa:List Stp:=[.ev 0,.ev 1,.ev 2,.ev 3,.ev 4,.ev 5,.ev 6,.ev 7,.ef 8,.ev 9]
theorem gZ {φ ψ:Prop} (k:ψ) (h:Hid ψ→φ:=by intro k;(with_reducible apply G.a7);first|refine G.a6 (N:=29) (id:=6) Aa mixed ah (Hid.out k)):φ:=h ⟨k⟩
theorem xv {L:List HP} (ad1 ad2:Option Addr) (n1 n2 c1 c2:Nat) (fs gs:List FlV) [Rds L ad1 FlV bG 11 fs] [Rds L ad2 FlV bG 11 gs] (h1:n1=fs.length) (h2:n2=gs.length) (he:fs.map FlV.m=gs.map FlV.m) (hl:fs.length≤1000000000) (hp:∀ f∈fs,f.m.parts.length≤1000000000∧f.m.made.length≤1000000000) (hA:∀ f∈fs,Ent L (flP f::L)) (hB:∀ f∈gs,Ent L (flP f::L)) :
  Tri Tryz.prog 90 #[.slice ad1 n1 c1,.slice ad2 n2 c2] L (fun v L'=>v=.bool true∧L' = L):=by
 subst h1 h2
 have hgl:gs.length=fs.length:=by have:=congrArg List.length he;simpa using this.symm
 refine Tri.body (args:=[.slice ad1 fs.length c1,.slice ad2 gs.length c2]) 29 en90 Tryz.func90 rfl rfl rfl (by simp) ?_
 repeat first|refine aa ?_|intro _|refine gZ ?_
 refine G.loop (α:=Nat) (fun i=>i≤fs.length) (fun i=>[(0,.slice ad1 fs.length c1),(1,.slice ad2 gs.length c2),(5,.int .i64 (i:Int))]) (fun _=>L) (fun i=>fs.length - i) 0 (Nat.zero_le _) aj (Ent.refl _) ?_
 intro i hi
 by_cases hlt:i<fs.length
 case neg =>
  repeat first|refine aa ?_|intro _|refine gZ ?_
  exact KX.a6 ai (Ent.refl _) ⟨rfl,rfl⟩
 have hii:(i:Int).toNat=i:=ab
 have hf:=ap hlt
 have hg:=ap (show i<gs.length by omega)
 have hm:fs[i]!.m=gs[i]!.m:=by
  have h3:(fs.map FlV.m)[i]! = (gs.map FlV.m)[i]!:=by rw [he]
  rw [dZ FlV.m hlt,dZ FlV.m ab] at h3
  exact h3
 have hp1:=hp _ hf
 have hA1:=hA _ hf
 have hB1:=hB _ hg
 obtain ⟨f,hfe⟩:∃ f,fs[i]! = f:=⟨_,rfl⟩
 obtain ⟨g,hge⟩:∃ g,gs[i]! = g:=⟨_,rfl⟩
 rw [hfe] at hm hp1 hA1
 rw [hge] at hm hB1
 have hx2:fs[(i:Int).toNat]! = f:=by rw [hii];exact hfe
 have hy2:gs[(i:Int).toNat]! = g:=by rw [hii];exact hge
 obtain ⟨m,p1,a1,q1,b1⟩:=f
 obtain ⟨m2,p2,a2,q2,b2⟩:=g
 dsimp only at hm hp1
 subst hm
 refine G.ent (L':=isl aw 3 p1 m.parts::isl (encZ .i64) 1 q1 m.made::isl aw 3 p2 m.parts::isl (encZ .i64) 1 q2 m.made::L) ?_ ?_
 ·refine hA1.trans (flP_open.trans ?_)
  dsimp only
  refine Ent.trans (B:=isl aw 3 p1 m.parts::isl (encZ .i64) 1 q1 m.made::L) ae ?_
  refine Ent.trans (Ent.a6 (Ent.a6 (hB1.trans flP_open))) ?_
  dsimp only
  exact ae
 repeat first|refine aa ?_|intro _|refine gZ ?_
 rw [hx2,hy2]
 refine GPW.ef (Ef.a6 (xu m p1 p2 q1 q2 a1 a2 b1 b2 hp1.1 hp1.2) rfl) ac ?_
 rintro _ _ ⟨rfl,rfl⟩
 repeat first|refine aa ?_|intro _|refine gZ ?_
 refine ⟨i+1,ab,ab,?_,by exact ae⟩
 rw [aq i]
 exact aj
end
section
def hdR (s:RStk):Hd:=(s.acc,s.item,lsum s.stk.lots)
theorem rX {x y z:Hd} (h1:klt x y) (h2:klt y z):klt x z:=by unfold klt at *;omega
structure HdTo (l:List RStk) (i:Nat) (out:List Hd):Prop where
 srt:out.Pairwise klt
 mem:∀ h,h∈out↔(∃ j,j<i∧h=hdR l[j]!)∧h.2.2≠0
 len:out.length≤i
theorem HdTo.zero (l:List RStk):HdTo l 0 []:=⟨List.Pairwise.nil,fun h=>⟨fun q=>(by cases q),fun q=>by obtain ⟨⟨j,hj,_⟩,_⟩:=q;omega⟩,Nat.le_refl _⟩
theorem HdTo.skip {l:List RStk} {i:Nat} {out:List Hd} (h:HdTo l i out) (h0:(hdR l[i]!).2.2=0):HdTo l (i+1) out:=by
 refine ⟨h.srt,fun x=>?_,Nat.le_succ_of_le h.len⟩
 rw [h.mem]
 constructor
 ·rintro ⟨⟨j,hj,e⟩,q⟩
  exact ⟨⟨j,ab,e⟩,q⟩
 ·rintro ⟨⟨j,hj,e⟩,q⟩
  refine ⟨⟨j,?_,e⟩,q⟩
  rcases Nat.lt_or_ge j i with h1|h1
  ·exact h1
  ·obtain rfl:j=i:=ab
   rw [e] at q
   exact absurd h0 q
theorem Dm {l:List RStk} (hd:gJ l) {i j:Nat} (hi:i<l.length) (hj:j<i):¬(l[j]!.acc=l[i]!.acc∧l[j]!.item=l[i]!.item):=by
 intro q
 have h:=List.pairwise_iff_getElem.1 (show (l.map (fun s=>(s.acc,s.item))).Pairwise (·≠·) from hd) j i (by rw [List.length_map];omega) (by rw [List.length_map];omega) hj
 rw [List.getElem_map,List.getElem_map] at h
 rw [getElem!_of hi,getElem!_of ab] at q
 exact h (by rw [q.1,q.2])
theorem HdTo.put {l:List RStk} {i:Nat} {out:List Hd} (h:HdTo l i out) (hi:i<l.length) (hd:gJ l) (h0:(hdR l[i]!).2.2≠0) {k:Nat} (hk:k≤out.length) (h1:∀ j,j<k→klt out[j]! (hdR l[i]!)) (h2:k<out.length→¬klt out[k]! (hdR l[i]!)):HdTo l (i+1) (out.take k++[hdR l[i]!]++out.drop k):=by
 have hne:∀ y∈out,¬(y.1=l[i]!.acc∧y.2.1=l[i]!.item):=fun y hy=>by
  obtain ⟨⟨j,hj,rfl⟩,_⟩:=(h.mem y).1 hy
  exact Dm hd hi hj
 have hafter:∀ y∈out.drop k,klt (hdR l[i]!) y:=fun y hy=>by
  have hkl:k<out.length:=by
   rcases Nat.lt_or_ge k out.length with q|q
   ·exact q
   ·rw [List.drop_of_length_le q] at hy;cases hy
  have hkk:=h2 hkl
  have hkm:out[k]!∈out:=ap hkl
  have hk2:klt (hdR l[i]!) out[k]!:=by
   have h3:=hne _ hkm
   unfold klt hdR at *
   dsimp only at *
   omega
  rw [List.drop_eq_getElem_cons hkl] at hy
  rcases List.mem_cons.1 hy with e|hy
  ·rw [e,← getElem!_of hkl]
   exact hk2
  ·have h4:(out.drop k).Pairwise klt:=h.srt.sublist (List.drop_sublist _ _)
   rw [List.drop_eq_getElem_cons hkl] at h4
   have h5:=(List.pairwise_cons.1 h4).1 y hy
   rw [← getElem!_of hkl] at h5
   exact rX hk2 h5
 have hbefore:∀ y∈out.take k,klt y (hdR l[i]!):=fun y hy=>by
  obtain ⟨j,hj,e⟩:=List.getElem_of_mem hy
  rw [List.length_take] at hj
  rw [List.getElem_take] at e
  rw [← e,← getElem!_of (show j<out.length by omega)]
  exact h1 j ab
 refine ⟨?_,fun x=>?_,?_⟩
 ·rw [List.append_assoc,List.pairwise_append]
  refine ⟨h.srt.sublist (List.take_sublist _ _),?_,?_⟩
  ·rw [List.singleton_append,List.pairwise_cons]
   exact ⟨hafter,h.srt.sublist (List.drop_sublist _ _)⟩
  ·intro a ha b hb
   rw [List.singleton_append] at hb
   rcases List.mem_cons.1 hb with e|hb
   ·rw [e];exact hbefore a ha
   ·exact rX (hbefore a ha) (hafter b hb)
 ·have hm:x∈out.take k++[hdR l[i]!]++out.drop k↔x∈out∨x=hdR l[i]!:=by
   rw [List.mem_append,List.mem_append,List.mem_singleton]
   have h6:x∈out↔x∈out.take k∨x∈out.drop k:=by rw [← List.mem_append,List.take_append_drop]
   rw [h6]
   constructor
   ·rintro ((q|q)|q)
    ·exact .inl (.inl q)
    ·exact .inr q
    ·exact .inl (.inr q)
   ·rintro ((q|q)|q)
    ·exact .inl (.inl q)
    ·exact .inr q
    ·exact .inl (.inr q)
  rw [hm,h.mem]
  constructor
  ·rintro (⟨⟨j,hj,e⟩,q⟩|e)
   ·exact ⟨⟨j,ab,e⟩,q⟩
   ·exact ⟨⟨i,ab,e⟩,by rw [e];exact h0⟩
  ·rintro ⟨⟨j,hj,e⟩,q⟩
   rcases Nat.lt_or_ge j i with h7|h7
   ·exact .inl ⟨⟨j,h7,e⟩,q⟩
   ·obtain rfl:j=i:=ab
    exact .inr e
 ·have:=h.len
  rw [List.length_append,List.length_append,List.length_take,List.length_drop,List.length_singleton]
  omega
theorem lI:∀ {l:List RStk},gJ l→∀ s∈l,bS l s.acc s.item=s.stk
 | [],_,_,h=>by cases h
 | u::l,hd,s,h=>by
  unfold gJ at hd
  rw [List.map_cons,List.nodup_cons] at hd
  unfold bS
  rcases List.mem_cons.1 h with e|h
  ·rw [e,if_pos (show u.acc=u.acc∧u.item=u.item from ⟨rfl,rfl⟩)]
  ·rw [if_neg (fun q=>hd.1 (by
    have h1:(s.acc,s.item)∈l.map (fun s=>(s.acc,s.item)):=List.mem_map_of_mem h
    rw [show u.acc=s.acc from q.1,show u.item=s.item from q.2]
    exact h1))]
   exact lI (l:=l) hd.2 s h
theorem HdTo.all {S:LedM} {x:RLX} (hF:RF S x) {out:List Hd} (h:HdTo x.stks x.stks.length out):HoldL (balF S) out:=by
 refine ⟨h.srt,fun y=>?_⟩
 rw [h.mem]
 constructor
 ·rintro ⟨⟨j,hj,rfl⟩,q⟩
  refine ⟨?_,q⟩
  show lsum x.stks[j]!.stk.lots=lsum (S.stk x.stks[j]!.acc x.stks[j]!.item)
  rw [← hF.lots,lI hF.dist _ (ap hj)]
 ·rintro ⟨e,q⟩
  refine ⟨?_,q⟩
  have h1:lsum (bS x.stks y.1 y.2.1).lots=y.2.2:=by rw [hF.lots];exact e.symm
  obtain ⟨s,hs,e1,e2⟩:∃ s∈x.stks,s.acc=y.1∧s.item=y.2.1:=by
   have h2:∀ l:List RStk,lsum (bS l y.1 y.2.1).lots≠0→∃ s∈l,s.acc=y.1∧s.item=y.2.1:=by
    intro l
    induction l with
    | nil=>intro q;exact absurd rfl q
    | cons u l ih =>
     intro q
     unfold bS at q
     by_cases hu:u.is y.1 y.2.1
     ·exact ⟨u,List.mem_cons_self,hu⟩
     ·rw [if_neg hu] at q
      obtain ⟨s,hs,e⟩:=ih q
      exact ⟨s,List.mem_cons_of_mem _ hs,e⟩
   exact h2 x.stks (by rw [h1];exact q)
  obtain ⟨j,hj,e3⟩:=List.getElem_of_mem hs
  refine ⟨j,hj,?_⟩
  rw [getElem!_of hj,e3]
  have h3:=lI hF.dist s hs
  rw [e1,e2] at h3
  rw [h3] at h1
  obtain ⟨a,b,c⟩:=y
  show (a,b,c)=(s.acc,s.item,lsum s.stk.lots)
  rw [e1,e2,h1]
abbrev zZ:List Stp:=[.ev 0,.ev 1,.ev 2,.ev 3,.ev 4,.ev 5,.ev 6,.ev 7,.ev 8,.ev 9,.ev 10,.ev 11,.ev 12,.ev 13,.ev 14,.ev 15,.ev 16,.ev 17,.ev 18,.ev 19,.ev 20,.ev 21,.ev 22,.ev 23,.ev 24,.ev 25,.ev 26,.ev 27,.ev 28,.ev 29,.ev 30,.ev 31,.ev 32,.ev 33]
theorem cc {φ ψ:Prop} (k:ψ) (h:Hid ψ→φ:=by intro k;(with_reducible apply G.a7);first|refine G.a6 (N:=95) (id:=8) zZ mixed ah (Hid.out k)):φ:=h ⟨k⟩
theorem qW {L:List HP} (b:Nat) (S:LedM) (hS:S.Ok) (x:RLX) (hF:RF S x) :
  Tri Tryz.prog 92 #[.pointer (some ⟨b,0,none⟩)] (rlL b S.shard x L) (fun v L'=>∃ ad cap hs,v=.slice ad hs.length cap∧(HoldL (balF S) hs∧hs.length≤8388608)∧L' = osl cP 3 tHd ad cap hs::rlL b S.shard x L):=by
 have hfl:=hS.flows
 have hst:=hS.steps
 refine Tri.body (args:=[.pointer (some ⟨b,0,none⟩)]) 95 en92 Tryz.func92 rfl rfl rfl (by simp) ?_
 simp only [rlL,aA]
 have hxl:=hF.len
 have hxf:x.flows.length=S.flows.length:=by rw [← hF.flows];simp
 have hok:=hF.ok
 repeat first|refine aa ?_|intro _|refine cc ?_
 refine G.loop (α:=Nat×Option Addr×Nat×List Hd) (fun z=>z.1≤x.stks.length∧HdTo x.stks z.1 z.2.2.2) (fun z=>[(0,.pointer (some ⟨b,0,none⟩)),(3,.slice z.2.1 z.2.2.2.length z.2.2.1),(4,.int .i64 (z.1:Int))]) (fun z=>osl cP 3 tHd z.2.1 z.2.2.1 z.2.2.2::rlL b S.shard x L) (fun z=>x.stks.length - z.1) (0,none,0,[]) ⟨Nat.zero_le _,HdTo.zero _⟩ aj ?_ ?_
 ·dsimp only
  simp only [rlL,aA]
  exact Ent.a7 cP 3 tHd
 rintro ⟨i,ad,cap,out⟩ ⟨hi,hH⟩
 dsimp only at hi hH ⊢
 simp only [rlL,aA]
 have hol:=hH.len
 by_cases hlt:i<x.stks.length
 case neg =>
  obtain rfl:i=x.stks.length:=ab
  repeat first|refine aa ?_|intro _|refine cc ?_
  exact KX.a6 ai (Ent.refl _) ⟨ad,cap,out,rfl,⟨hH.all hF,ab⟩,rfl⟩
 have hii:(i:Int).toNat=i:=Int.toNat_natCast i
 have hlt' : (i:Int).toNat<x.stks.length:=ab
 have hm:=ap hlt
 obtain ⟨o1,o2⟩:=hok _ hm
 have hput:=fun h0 k hk h1 h2=>hH.put (k:=k) hlt hF.dist h0 hk h1 h2
 have hskip:=hH.skip
 have hu2:x.stks[(i:Int).toNat]! = x.stks[i]!:=by rw [hii]
 rw [← hu2] at hm o1 o2 hput hskip
 refine G.ent (L':=stkP x.stks[(i:Int).toNat]!.stk::osl cP 3 tHd ad cap out::rlL b S.shard x L) ?_ ?_
 ·simp only [rlL,aA]
  refine (Ent.at (A:=allP rsP x.stks) (Ent.a8 (f:=rsP) hm)).trans ?_
  exact ae
 simp only [rlL,aA]
 repeat first|((fail_if_success (with_reducible refine G.atS 5 ?_));(with_reducible apply G.seq))|refine aM ?_|intro _|refine cc ?_
 refine G.a8 (α:=Nat) (fun _=>True) (fun b5=>[(0,.pointer (some ⟨b,0,none⟩)),(3,.slice ad out.length cap),(4,.int .i64 (i:Int)),(5,.pointer (some ⟨b5,0,none⟩))]) (fun b5=>obj b5 tHd (cP (hdR x.stks[(i:Int).toNat]!))::osl cP 3 tHd ad cap out::rlL b S.shard x L) ?_ ?_
 ·refine G.d8 mixed ah ?_
  refine GF.evP (i:=0) rfl ah (Ev.move rfl) ac ?_
  refine GF.evP (i:=1) rfl ah (Ev.nilCheck rfl) ac ?_
  refine GF.evP (i:=2) rfl ah (Ev.fieldAddr rfl) ac ?_
  refine GF.evL (i:=3) rfl ah (Ev.c6 rfl rfl) ac ?_
  refine GF.evP (i:=4) rfl ah (Ev.move rfl) ac ?_
  refine GF.evL (i:=5) rfl ah (Ev.indexAddr rfl rfl ab ab ab) ac ?_
  refine GF.evL (i:=6) rfl ah (Ev.a8 rfl ab) ac ?_
  refine GF.evL (i:=7) rfl ah (Ev.a6 rfl hlt' ac rfl) ac ?_
  refine GF.evP (i:=8) rfl ah (Ev.move rfl) ac ?_
  refine GF.evP (i:=9) rfl ah (Ev.nilCheck rfl) ac ?_
  refine GF.evP (i:=10) rfl ah (Ev.fieldAddr rfl) ac ?_
  refine GF.evL (i:=11) rfl ah (Ev.c6 rfl rfl) ac ?_
  refine GF.evP (i:=12) rfl ah (Ev.move rfl) ac ?_
  refine GF.evL (i:=13) rfl ah (Ev.indexAddr rfl rfl ab ab ab) ac ?_
  refine GF.evL (i:=14) rfl ah (Ev.a8 rfl ab) ac ?_
  refine GF.evL (i:=15) rfl ah (Ev.a6 rfl hlt' ac rfl) ac ?_
  refine GF.evP (i:=16) rfl ah (Ev.move rfl) ac ?_
  refine GF.evP (i:=17) rfl ah (Ev.nilCheck rfl) ac ?_
  refine GF.evP (i:=18) rfl ah (Ev.fieldAddr rfl) ac ?_
  refine GF.evL (i:=19) rfl ah (Ev.c6 rfl rfl) ac ?_
  refine GF.evP (i:=20) rfl ah (Ev.move rfl) ac ?_
  refine GF.evL (i:=21) rfl ah (Ev.indexAddr rfl rfl ab ab ab) ac ?_
  refine GF.evL (i:=22) rfl ah (Ev.a8 rfl ab) ac ?_
  refine GF.evL (i:=23) rfl ah (Ev.a6 rfl hlt' ac rfl) ac ?_
  refine GF.a6 24 26 ah ?_ ?_
  ·refine GE.ef rfl (Ef.a6 (fU x.stks[(i:Int).toNat]!.stk.ad _ x.stks[(i:Int).toNat]!.stk.cap x.stks[(i:Int).toNat]!.stk.lots rfl o1 o2) rfl) ac ?_
   rintro _ _ ⟨rfl,rfl⟩
   refine ⟨(by intro pe hp;simp only [List.mem_cons,List.not_mem_nil,or_false] at hp;rcases hp with rfl|rfl|rfl|rfl|rfl|rfl|rfl|rfl|rfl|rfl|rfl|rfl<;>first|exact Ev.c6 rfl rfl|exact Ev.a6 rfl hlt' ac rfl|exact Ev.a8 rfl ab|exact Ev.indexAddr rfl rfl ab ab ab),?_⟩
   refine GF.plan [.ev 25,.ef 26,.ef 27] ah rfl ?_
   repeat first|refine aa ?_|intro _|refine cc ?_
   exact ⟨_,trivial,aj,by simp only [rlL,aA,cP,hdR];exact ae⟩
  ·refine GE.ef rfl Ef.alloc ac ?_
   rintro _ _ ⟨b5,rfl,rfl⟩
   refine ⟨(by intro pe hp;simp only [List.mem_cons,List.not_mem_nil,or_false] at hp;rcases hp with rfl|rfl|rfl|rfl|rfl|rfl|rfl|rfl|rfl|rfl|rfl|rfl<;>first|exact Ev.c6 rfl rfl|exact Ev.a6 rfl hlt' ac rfl|exact Ev.a8 rfl ab|exact Ev.indexAddr rfl rfl ab ab ab),?_⟩
   refine GF.plan [.ef 24,.ev 25,.ef 27] ah rfl ?_
   repeat first|refine aa ?_|intro _|refine cc ?_
   refine GPW.ef (Ef.a6 (fU x.stks[(i:Int).toNat]!.stk.ad _ x.stks[(i:Int).toNat]!.stk.cap x.stks[(i:Int).toNat]!.stk.lots rfl o1 o2) rfl) ac ?_
   rintro _ _ ⟨rfl,rfl⟩
   repeat first|refine aa ?_|intro _|refine cc ?_
   exact ⟨_,trivial,aj,by simp only [rlL,aA,cP,hdR];exact ae⟩
 rintro b5 _
 simp only [rlL,aA]
 obtain ⟨y,hy⟩:∃ y,hdR x.stks[(i:Int).toNat]! = y:=⟨_,rfl⟩
 rw [hy] at hput hskip ⊢
 by_cases h0:y.2.2=0
 ·simp only [cP]
  repeat first|refine aa ?_|intro _|refine cc ?_
  refine ⟨(i+1,ad,cap,out),⟨by dsimp only;omega,hskip h0⟩,by dsimp only;omega,?_,by simp only [rlL,aA];exact ae⟩
  dsimp only
  rw [aq i]
  exact aj
 simp only [cP]
 repeat first|refine aa ?_|intro _|refine cc ?_
 refine G.loop (α:=Nat) (fun k=>k≤out.length∧∀ j,j<k→klt out[j]! y) (fun k=>[(0,.pointer (some ⟨b,0,none⟩)),(3,.slice ad out.length cap),(4,.int .i64 (i:Int)),(5,.pointer (some ⟨b5,0,none⟩)),(6,.int .i64 (k:Int))]) (fun _=>obj b5 tHd (cP y)::osl cP 3 tHd ad cap out::rlL b S.shard x L) (fun k=>out.length - k) 0 ⟨Nat.zero_le _,fun j hj=>absurd hj (Nat.not_lt_zero j)⟩ aj (by simp only [rlL,aA,cP];exact ae) ?_
 rintro k ⟨hk,hkl⟩
 simp only [rlL,aA,cP]
 have hkk:(k:Int).toNat=k:=Int.toNat_natCast k
 by_cases hgo:k<out.length∧klt out[k]! y
 ·obtain ⟨hk1,hk2⟩:=hgo
  have hk1' : (k:Int).toNat<out.length:=ab
  have hk2' : klt out[(k:Int).toNat]! y:=by rw [hkk];exact hk2
  have hnx:∀ j,j<k+1→klt out[j]! y:=fun j hj=>by
   rcases Nat.lt_or_ge j k with q|q
   ·exact hkl j q
   ·obtain rfl:j=k:=ab
    exact hk2
  unfold klt at hk2'
  by_cases e1:out[(k:Int).toNat]!.1<y.1
  ·repeat first|refine aa ?_|intro _|refine cc ?_
   refine ⟨k+1,⟨ab,hnx⟩,ab,?_,by exact ae⟩
   rw [aq k]
   exact aj
  ·have e2:out[(k:Int).toNat]!.1=y.1:=ab
   have e3:out[(k:Int).toNat]!.2.1<y.2.1:=ab
   repeat first|refine aa ?_|intro _|refine cc ?_
   refine ⟨k+1,⟨ab,hnx⟩,ab,?_,by exact ae⟩
   rw [aq k]
   exact aj
 have hstop:k<out.length→¬klt out[k]! y:=fun q1 q2=>hgo ⟨q1,q2⟩
 have hput2:=hput h0 k hk hkl hstop
 refine G.c9 (eV (L:=obj b5 tHd [.int .i64 y.1,.int .i64 y.2.1,.int .i64 y.2.2]::osl cP 3 tHd ad cap out::rlL b S.shard x L) (ad:=ad) (cap:=cap) (xs:=out) (enc:=cP) (sz:=3) (E:=tHd)) ?_
 rintro ⟨hcap1,hcap2⟩
 refine G.ent (Ent.a7 cP 3 tHd) ?_
 have hc2:¬(k<out.length∧klt out[k]! y):=hgo
 have hk1:k<out.length→¬out[(k:Int).toNat]!.1<y.1∧¬(out[(k:Int).toNat]!.1=y.1∧out[(k:Int).toNat]!.2.1<y.2.1):=fun q=>by
  have h3:=hstop q
  rw [hkk]
  unfold klt at h3
  exact ⟨fun q2=>h3 (.inl q2),fun q2=>h3 (.inr q2)⟩
 have hdl:out.length - (k:Int).toNat=(out.drop (k:Int).toNat).length:=by rw [List.length_drop]
 have htl:(k:Int).toNat=(out.take (k:Int).toNat).length:=by rw [List.length_take];omega
 have hfin:HdTo x.stks (i+1) (out.take (k:Int).toNat++[y]++out.drop (k:Int).toNat):=by rw [hkk];exact hput2
 have hroad:(k<out.length∧¬out[(k:Int).toNat]!.1<y.1∧(out[(k:Int).toNat]!.1=y.1∧¬out[(k:Int).toNat]!.2.1<y.2.1))∨(k<out.length∧¬out[(k:Int).toNat]!.1<y.1∧¬out[(k:Int).toNat]!.1=y.1)∨¬k<out.length:=by
  by_cases q:k<out.length
  ·obtain ⟨q1,q2⟩:=hk1 q
   by_cases q3:out[(k:Int).toNat]!.1=y.1
   ·exact .inl ⟨q,q1,q3,fun q4=>q2 ⟨q3,q4⟩⟩
   ·exact .inr (.inl ⟨q,q1,q3⟩)
  ·exact .inr (.inr q)
 have hgo2:(k:Int).toNat<out.length↔k<out.length:=by rw [hkk]
 rcases hroad with ⟨q0,q1,q2,q3⟩|⟨q0,q1,q2⟩|q0
 all_goals
  try have q0':=hgo2.2 q0
  repeat first|refine aa ?_|intro _|refine cc ?_
  refine G.d8 mixed ah ?_
  refine GF.evP (i:=0) rfl ah (Ev.move rfl) ac ?_
  refine GF.evP (i:=1) rfl ah (Ev.move rfl) ac ?_
  refine GF.evP (i:=2) rfl ah (Ev.move rfl) ac ?_
  refine GF.evP (i:=3) rfl ah (Ev.l8 rfl rfl ab ab) ac ?_
  refine GF.evL (i:=5) rfl ah (Ev.d8 rfl (by rfl)) ac ?_
  refine GF.evP (i:=8) rfl ah (Ev.move rfl) ac ?_
  refine GF.evP (i:=9) rfl ah (Ev.move rfl) ac ?_
  refine GF.evP (i:=10) rfl ah (Ev.k5 rfl rfl ab ab) ac ?_
  refine GF.a6 4 6 ah ?_ ?_
  ·refine GE.ef rfl (Ef.c6 (xs:=([]:List Hd)) (ys:=out.take (k:Int).toNat) (hq:=Rds.take inferInstance _) rfl rfl rfl rfl htl (fun e _=>fP e) (by rw [List.length_nil,← htl];omega) (by rw [List.length_nil,← htl];omega)) ac ?_
   rintro _ _ ⟨ad1,cap1,rfl,rfl⟩
   refine ⟨(by intro pe hp;simp only [List.mem_cons,List.not_mem_nil,or_false] at hp;rcases hp with rfl;exact Ev.d8 rfl (by rfl)),?_⟩
   simp only [List.nil_append]
   refine GF.plan [.ef 6,.ef 7,.ef 11,.ev 12] ah rfl ?_
   repeat first|refine aa ?_|intro _|refine cc ?_
   refine GPW.ef (Ef.a7 (enc:=cP) (e:=y) rfl rfl rfl rfl rfl (by rfl) (fP _) (by rw [← htl];omega) (by rw [← htl];omega)) ac ?_
   rintro _ _ ⟨ad2,cap2,rfl,rfl⟩
   repeat first|refine aa ?_|intro _|refine cc ?_
   refine GPW.ef (Ef.c6 (ys:=out.drop (k:Int).toNat) rfl rfl rfl rfl hdl (fun e _=>fP e) (by rw [List.length_append,← htl,← hdl,List.length_singleton];omega) (by rw [List.length_append,← htl,← hdl,List.length_singleton];omega)) ac ?_
   rintro _ _ ⟨ad3,cap3,rfl,rfl⟩
   repeat first|refine aa ?_|intro _|refine cc ?_
   refine ⟨(i+1,ad3,cap3,out.take (k:Int).toNat++[y]++out.drop (k:Int).toNat),⟨by dsimp only;omega,hfin⟩,by dsimp only;omega,?_,by simp only [rlL,aA];exact ae⟩
   dsimp only
   rw [aq i]
   exact aj
  ·refine GE.ef rfl (Ef.lit rfl rfl ac rfl) ac ?_
   rintro _ _ ⟨b9,rfl,rfl⟩
   refine ⟨(by intro pe hp;simp only [List.mem_cons,List.not_mem_nil,or_false] at hp;rcases hp with rfl;exact Ev.d8 rfl (by rfl)),?_⟩
   refine GF.plan [.ef 4,.ef 7,.ef 11,.ev 12] ah rfl ?_
   repeat first|refine aa ?_|intro _|refine cc ?_
   refine GPW.ef (Ef.c6 (xs:=([]:List Hd)) (ys:=out.take (k:Int).toNat) (hq:=Rds.take inferInstance _) rfl rfl rfl rfl htl (fun e _=>fP e) (by rw [List.length_nil,← htl];omega) (by rw [List.length_nil,← htl];omega)) ac ?_
   rintro _ _ ⟨ad1,cap1,rfl,rfl⟩
   simp only [List.nil_append]
   repeat first|refine aa ?_|intro _|refine cc ?_
   refine GPW.ef (Ef.a7 (enc:=cP) (e:=y) rfl rfl rfl rfl rfl (by rfl) (fP _) (by rw [← htl];omega) (by rw [← htl];omega)) ac ?_
   rintro _ _ ⟨ad2,cap2,rfl,rfl⟩
   repeat first|refine aa ?_|intro _|refine cc ?_
   refine GPW.ef (Ef.c6 (ys:=out.drop (k:Int).toNat) rfl rfl rfl rfl hdl (fun e _=>fP e) (by rw [List.length_append,← htl,← hdl,List.length_singleton];omega) (by rw [List.length_append,← htl,← hdl,List.length_singleton];omega)) ac ?_
   rintro _ _ ⟨ad3,cap3,rfl,rfl⟩
   repeat first|refine aa ?_|intro _|refine cc ?_
   refine ⟨(i+1,ad3,cap3,out.take (k:Int).toNat++[y]++out.drop (k:Int).toNat),⟨by dsimp only;omega,hfin⟩,by dsimp only;omega,?_,by simp only [rlL,aA];exact ae⟩
   dsimp only
   rw [aq i]
   exact aj
end
section
instance:TyIB Tryz.prog 72 [false,false,false,false,false,false,false,true,false,false]:=⟨by kernel_rfl,by kernel_rfl,by kernel_rfl,by kernel_rfl⟩
theorem xg {Y:YardM} (h:Y.Ok) (a:Int):(aJ Y.jobs a).length≤60:=by
 have h1:=qg Y.jobs a Y.jobs.length
 rw [qh] at h1
 have:=h.len
 omega
abbrev zY:List Stp:=[.ev 0,.ev 1,.ev 2,.ev 3,.ev 5,.ev 6,.ev 7,.ev 8,.ev 9,.ev 10,.ev 11,.ef 4,.ev 12,.ev 13]
abbrev wX:List Stp:=[.ev 0,.ev 1,.ev 2,.ev 3,.ev 5,.ev 6,.ev 7,.ev 8,.ev 9,.ev 10,.ev 11,.ef 4,.ef 12,.ev 13,.ev 14,.ev 15,.ev 17,.ev 18,.ev 19,.ev 20,.ef 16,.ef 21,.ef 22,.ev 23,.ev 24]
theorem co {φ ψ:Prop} (k:ψ) (h:Hid ψ→φ:=by intro k;(with_reducible apply G.a7);first|refine G.a6 (N:=88) (id:=5) zY mixed ah (Hid.out k)|refine G.a6 (N:=88) (id:=13) wX mixed ah (Hid.out k)):φ:=h ⟨k⟩
theorem AQ {L:List HP} (yb lb mb rb:Nat) (Y:YardM) (S:LedM) (hY:Y.Ok) (hS:SrcI S) (hW:qN S) (hfew:S.flows.length≤100000) :
  Tri Tryz.prog 40 #[.pointer (some ⟨yb,0,none⟩),.pointer (some ⟨lb,0,none⟩),.pointer (some ⟨mb,0,none⟩)] (bF yb lb Y::LedR lb S::cZ mb rb Y::aT rb S::L) (fun v L'=>v=.bool true∧L' = bF yb lb Y::LedR lb S::cZ mb rb Y::aT rb S::L):=by
 have hjl:=hY.len
 refine Tri.body (args:=[.pointer (some ⟨yb,0,none⟩),.pointer (some ⟨lb,0,none⟩),.pointer (some ⟨mb,0,none⟩)]) 88 en40 Tryz.func40 rfl rfl rfl (by simp) ?_
 refine G.ent (L':=cZ mb rb Y::aT rb S::bF yb lb Y::LedR lb S::L) ae ?_
 refine G.c6 (f:=ryA mb rb Y) ?_
 intro y
 simp only [ryA,ryL,aR,List.cons_append,List.nil_append]
 have hyc:=dU (yb:=mb) (lb:=rb) (Y:=Y) (L:=bF yb lb Y::LedR lb S::aT rb S::L) y
 simp only [ryL,aR] at hyc
 repeat first|refine aa ?_|intro _|refine co ?_
 refine G.loop (α:=Nat) (fun i=>i≤Y.jobs.length) (fun i=>[(0,.pointer (some ⟨yb,0,none⟩)),(1,.pointer (some ⟨lb,0,none⟩)),(2,.pointer (some ⟨mb,0,none⟩)),(7,.int .i64 (i:Int))]) (fun _=>obj mb tRY (aR rb Y y)::isl (encZ .u8) 1 y.sad Y.seed::osl av 10 tRJ y.jad y.jcap Y.jobs::bF yb lb Y::LedR lb S::aT rb S::L) (fun i=>Y.jobs.length - i) 0 (Nat.zero_le _) aj ae ?_
 intro i hi
 by_cases hlt:i<Y.jobs.length
 case pos =>
  have hii:(i:Int).toNat=i:=Int.toNat_natCast i
  have hlt' : (i:Int).toNat<Y.jobs.length:=ab
  have hjob:=lT (L:=[]) yb lb Y hY i hlt
  rw [show Y.jobs[i]! = Y.jobs[(i:Int).toNat]! by rw [hii]] at hjob
  have hj18:=Ar (L:=[]) Y.jobs[(i:Int).toNat]!
  repeat first|refine aa ?_|intro _|refine co ?_
  (first|refine GO.ef (Ef.call (hjob) rfl (by repeat (first|exact Ent.refl _|apply Ent.take))) ac ?_)
  rintro _ _ ⟨_,⟨rfl,rfl⟩,hL⟩
  simp only [List.cons_append,List.nil_append] at hL;subst hL
  repeat first|refine aa ?_|intro _|refine co ?_
  (first|refine GPW.ef (Ef.call (hj18) rfl (by repeat (first|exact Ent.refl _|apply Ent.take))) ac ?_)
  rintro _ _ ⟨_,⟨rfl,rfl⟩,hL⟩
  simp only [List.cons_append,List.nil_append] at hL;subst hL
  repeat first|refine aa ?_|intro _|refine co ?_
  refine GPW.evP (Ev.y6 (cs:=av Y.jobs[(i:Int).toNat]!) rfl rfl rfl) ac ?_
  repeat first|refine aa ?_|intro _|refine co ?_
  refine ⟨i+1,ab,ab,?_,by exact ae⟩
  rw [aq i]
  exact aj
 obtain rfl:i=Y.jobs.length:=ab
 repeat first|refine aa ?_|intro _|refine co ?_
 (first|refine GO.ef (Ef.call (xp (L:=[]) yb lb Y hY Y.jobs.length (Nat.le_refl _) ab) rfl (by repeat (first|exact Ent.refl _|apply Ent.take))) ac ?_)
 rintro _ _ ⟨_,⟨rfl,rfl⟩,hL⟩
 simp only [List.cons_append,List.nil_append] at hL;subst hL
 repeat first|refine aa ?_|intro _|refine co ?_
 refine G.loop (α:=Nat) (fun a=>a≤5) (fun a=>[(0,.pointer (some ⟨yb,0,none⟩)),(1,.pointer (some ⟨lb,0,none⟩)),(2,.pointer (some ⟨mb,0,none⟩)),(11,.bool false),(12,.int .i64 (a:Int))]) (fun _=>cZ mb rb Y::bF yb lb Y::LedR lb S::aT rb S::L) (fun a=>5 - a) 0 (Nat.zero_le _) aj (Ent.trans ae hyc) ?_
 intro a ha
 by_cases hla:a<5
 case pos =>
  have hopen:=xg hY (a:Int)
  repeat first|refine aa ?_|intro _|refine co ?_
  (first|refine GO.ef (Ef.call (tr (L:=[]) yb lb Y hY (a:Int)) rfl (by repeat (first|exact Ent.refl _|apply Ent.take))) ac ?_)
  rintro _ _ ⟨_,⟨wad,wcap,rfl,rfl⟩,hL⟩
  simp only [List.cons_append,List.nil_append] at hL;subst hL
  repeat first|refine aa ?_|intro _|refine co ?_
  (first|refine GO.ef (Ef.call (sJ (L:=[]) mb rb Y hY (a:Int)) rfl (by repeat (first|exact Ent.refl _|apply Ent.take))) ac ?_)
  rintro _ _ ⟨_,⟨wad2,wcap2,rfl,rfl⟩,hL⟩
  simp only [List.cons_append,List.nil_append] at hL;subst hL
  repeat first|refine aa ?_|intro _|refine co ?_
  refine GO.ef (Ef.a6 (pJ wad wad2 (aJ Y.jobs (a:Int)).length (aJ Y.jobs (a:Int)).length wcap wcap2 (aJ Y.jobs (a:Int)) (aJ Y.jobs (a:Int)) rfl rfl ab) rfl) ac ?_
  rintro _ _ ⟨rfl,rfl⟩
  rw [ay rfl]
  repeat first|refine aa ?_|intro _|refine co ?_
  refine ⟨a+1,ab,ab,?_,by exact ae⟩
  rw [aq a]
  exact aj
 obtain rfl:a=5:=ab
 refine G.c6 (f:=ryA mb rb Y) ?_
 intro y2
 simp only [ryA,ryL,aR,List.cons_append,List.nil_append]
 refine G.ent (L':=aT rb S::obj mb tRY (aR rb Y y2)::isl (encZ .u8) 1 y2.sad Y.seed::osl av 10 tRJ y2.jad y2.jcap Y.jobs::bF yb lb Y::LedR lb S::L) ae ?_
 refine G.c6 (f:=eK rb S) ?_
 intro x
 simp only [eK,rlL,aA,aR,List.cons_append,List.nil_append]
 refine G.c8 ?_
 intro hX
 have hxf:x.flows.length=S.flows.length:=by rw [← hX.flows];simp
 have hsf:=hS.1.flows
 have hss:=hS.1.steps
 repeat first|refine aa ?_|intro _|refine co ?_
 (first|refine GPW.ef (Ef.call (xt (L:=[]) lb S hW hfew) rfl (by repeat (first|exact Ent.refl _|apply Ent.take))) ac ?_)
 rintro _ _ ⟨_,⟨fad,fcap,fs,rfl,hfs,rfl⟩,hL⟩
 simp only [List.cons_append,List.nil_append] at hL;subst hL
 have hfl:fs.length=S.flows.length:=by rw [← hfs];simp
 have hfp:∀ f∈fs,f.m.parts.length≤1000000000∧f.m.made.length≤1000000000:=fun f hf=>by
  have:=hW.2 f.m (by rw [← hfs];exact List.mem_map_of_mem hf)
  omega
 repeat first|refine aa ?_|intro _|refine co ?_
 refine GPW.ef (Ef.a6 (xv fad x.fad fs.length x.flows.length fcap x.fcap fs x.flows rfl rfl (hfs.trans hX.flows.symm) ab hfp (by intro f hf;exact (Ent.at (A:=allP flP fs) (Ent.a8 (f:=flP) hf)).trans ae) (by intro f hf;exact (Ent.at (A:=allP flP x.flows) (Ent.a8 (f:=flP) hf)).trans ae)) rfl) ac ?_
 rintro _ _ ⟨rfl,rfl⟩
 repeat first|refine aa ?_|intro _|refine co ?_
 (first|refine GPW.ef (Ef.call (gW (L:=[]) lb S hS hfew) rfl (by repeat (first|exact Ent.refl _|apply Ent.take))) ac ?_)
 rintro _ _ ⟨_,⟨ad1,cap1,hs1,rfl,⟨hh1,hl1⟩,rfl⟩,hL⟩
 simp only [List.cons_append,List.nil_append] at hL;subst hL
 repeat first|refine aa ?_|intro _|refine co ?_
 refine GPW.ent (L':=rlL rb S.shard x (osl cP 3 tHd ad1 cap1 hs1::obj mb tRY (aR rb Y y2)::isl (encZ .u8) 1 y2.sad Y.seed::osl av 10 tRJ y2.jad y2.jcap Y.jobs::bF yb lb Y::LedR lb S::L)) (by simp only [rlL,aA];exact ae) ?_
 refine GPW.ef (Ef.a6 (qW rb S hS.1 x hX) rfl) ac ?_
 rintro _ _ ⟨ad2,cap2,hs2,rfl,⟨hh2,hl2⟩,rfl⟩
 simp only [rlL,aA,aR]
 have e2:hs1=hs2:=hh1.unique hh2 (fun _ _=>rfl)
 repeat first|refine aa ?_|intro _|refine co ?_
 refine GPW.ef (Ef.a6 (kO ad1 ad2 hs1.length hs2.length cap1 cap2 hs1 hs2 rfl rfl ab) rfl) ac ?_
 rintro _ _ ⟨rfl,rfl⟩
 rw [ay e2]
 repeat first|refine aa ?_|intro _|refine co ?_
 refine KX.a6 ai ?_ ⟨rfl,rfl⟩
 refine Ent.trans (B:=rlL rb S.shard x (ryL mb rb Y y2 (bF yb lb Y::LedR lb S::L))) (by simp only [rlL,aA,ryL,aR];exact ae) ?_
 exact (dd x hX).trans ((Ent.a6 (dU y2)).trans ae)
end
end Go.Proofs.YtfmgkkofledkbaaGreatDoor
namespace Go.Proofs.YtfmgkkofledkbaaGreatDoor
open Go.V
attribute [local irreducible] tryM cF cQ cR db
theorem lM {S:LedM} (h:S.Ok) (s:StM):(aG S s).flows.length≤S.flows.length+s.moves.length∧(aG S s).flows.length≤S.flows.length+64:=by
 unfold aG
 split
 ·rename_i he
  obtain ⟨_,h2,_,h4⟩:=gI h dz he
  have h5:=h2.2.2.1.2
  show (S.flows++(tryM S s).2.flows).length≤_∧(S.flows++(tryM S s).2.flows).length≤_
  rw [List.length_append,h4]
  omega
 ·omega
theorem uQ {acc tick hold:Int} {S:LedM} (h:S.Ok):∀ k,(gbM acc tick hold S k).flows.length≤S.flows.length+k
 | 0=>Nat.le_refl _
 | k+1=>by
  have ih:=uQ (acc:=acc) (tick:=tick) (hold:=hold) h k
  have hO:=(kg (acc:=acc) (tick:=tick) (hold:=hold) h k).1
  rw [ig]
  unfold gbS
  split
  ·omega
  ·have:=(lM hO (gbT acc tick hold (k:Int) (lsum ((gbM acc tick hold S k).stk hold (k:Int))))).1
   have e:(gbT acc tick hold (k:Int) (lsum ((gbM acc tick hold S k).stk hold (k:Int)))).moves.length=1:=rfl
   omega
theorem EC {S:LedM} (h:S.Ok) (hit:S.cat.items.length=5) (seed:List Int) (j:JobM) (tick:Int):(endJ S seed j tick).1.flows.length≤S.flows.length+133:=by
 unfold endJ
 dsimp only
 obtain ⟨h1,h2,_⟩:=ka h j (cQ seed j.id j.times S.cat.rules[j.rule.toNat]!.chance S.cat.rules[j.rule.toNat]!.of_) S.cat.rules[j.rule.toNat]!.take S.cat.rules[j.rule.toNat]!.give j.rule tick
 have f1:(dl S j (cQ seed j.id j.times S.cat.rules[j.rule.toNat]!.chance S.cat.rules[j.rule.toNat]!.of_) S.cat.rules[j.rule.toNat]!.take S.cat.rules[j.rule.toNat]!.give j.rule tick).2.flows.length≤S.flows.length+64:=(lM h _).2
 generalize dl S j (cQ seed j.id j.times S.cat.rules[j.rule.toNat]!.chance S.cat.rules[j.rule.toNat]!.of_) S.cat.rules[j.rule.toNat]!.take S.cat.rules[j.rule.toNat]!.give j.rule tick=p at *
 obtain ⟨h3,h4,_⟩:=ka h1 j (j.times - cQ seed j.id j.times S.cat.rules[j.rule.toNat]!.chance S.cat.rules[j.rule.toNat]!.of_) S.cat.rules[j.rule.toNat]!.take S.cat.rules[j.rule.toNat]!.back (-2 - j.rule) tick
 have f2:(dl p.2 j (j.times - cQ seed j.id j.times S.cat.rules[j.rule.toNat]!.chance S.cat.rules[j.rule.toNat]!.of_) S.cat.rules[j.rule.toNat]!.take S.cat.rules[j.rule.toNat]!.back (-2 - j.rule) tick).2.flows.length≤p.2.flows.length+64:=(lM h1 _).2
 generalize dl p.2 j (j.times - cQ seed j.id j.times S.cat.rules[j.rule.toNat]!.chance S.cat.rules[j.rule.toNat]!.of_) S.cat.rules[j.rule.toNat]!.take S.cat.rules[j.rule.toNat]!.back (-2 - j.rule) tick=q at *
 have f3:=uQ (acc:=j.acc) (tick:=tick) (hold:=j.hold) h3 S.cat.items.length
 omega
theorem Ff {n:Nat} {S:LedM} {Y:YardM} (hI:RunI n S Y) (hn:n≤17) (hit:S.cat.items.length=5) (tick:Int):(advM S Y tick).2.1.flows.length≤S.flows.length+2300:=by
 by_cases ht:aU Y.tick S.now tick
 case neg =>
  rw [em ht]
  exact Nat.le_add_right _ _
 obtain ⟨ids,hids⟩:=fb Y.jobs tick
 rw [ge ht hids]
 have hil:=hids.len
 have hjl:=hI.len
 have hb:=fQ hI.yok ht
 have main:∀ g,g≤ids.length→(advS S Y tick ids g).1.flows.length≤S.flows.length+133*g:=by
  intro g
  induction g with
  | zero=>intro _;exact Nat.le_refl _
  | succ g ih =>
   intro hg
   have j2:=ih ab
   have hA:=jb hI.sok hI.yok hI.rul hb hids g
   rw [kM ab]
   generalize advS S Y tick ids g=q at *
   have h3:(endM tick q ids[g]!).1.flows.length≤q.1.flows.length+133:=EC hA.ok (by rw [show q.1.cat=S.cat from hA.cat];exact hit) _ _ _
   omega
 have:=main ids.length (Nat.le_refl _)
 show (advS S Y tick ids ids.length).1.flows.length≤_
 omega
theorem Fe {n:Nat} {S:LedM} {Y:YardM} (hI:RunI n S Y) (hn:n≤17) (hit:S.cat.items.length=5) (o:OpM):(doM S Y o).2.1.flows.length≤S.flows.length+2300:=by
 have hsame:S.flows.length≤S.flows.length+2300:=ab
 have hpost:∀ s,(aG S s).flows.length≤S.flows.length+2300:=fun s=>by have:=(lM hI.sok s).2;omega
 unfold doM
 split
 ·rcases eA S Y o.acc o.b o.a o.c o.tick with ⟨e,_⟩|⟨_,_,_,_,_,e⟩
  ·rw [e];exact hsame
  ·rw [e]
   dsimp only
   split
   ·exact hsame
   ·exact hpost _
 ·split
  ·unfold aY
   split
   ·exact hsame
   ·split
    ·exact hsame
    ·split
     ·exact hsame
     ·split
      ·exact hsame
      ·have:=uQ (acc:=o.acc) (tick:=o.tick) (hold:=Y.jobs[o.a.toNat]!.hold) hI.sok S.cat.items.length
       show (gbM o.acc o.tick Y.jobs[o.a.toNat]!.hold S S.cat.items.length).flows.length≤_
       omega
  ·split
   ·exact Ff hI hn hit _
   ·split
    ·unfold bH
     split
     ·exact hsame
     ·split
      ·exact hsame
      ·exact hpost _
    ·split
     ·obtain ⟨table,htb⟩:∃ t,o.a / 4=t:=⟨_,rfl⟩
      rw [htb]
      by_cases h1:aL o.acc∧aU Y.tick S.now o.tick
      case neg =>
       rw [fa h1]
       exact hsame
      by_cases h2:0≤table∧table<S.cat.tables.length
      case neg =>
       rw [eC h1.1 h1.2 h2]
       exact hsame
      obtain ⟨p,hp⟩:∃ p,p=db (cR Y.seed Y.loots) (S.cat.tables[table.toNat]!.rows.map (·.weight)) 0:=⟨_,rfl⟩
      rw [fD h1.1 h1.2 h2 rfl rfl hp]
      clear hp
      generalize S.cat.tables[table.toNat]!.rows[p.1.toNat]!.give=gv
      by_cases h3:p.2.1=0
      case neg =>
       rw [if_pos h3]
       exact hsame
      rw [if_neg (fun q=>q h3)]
      by_cases h4:gv.length=0
      case pos =>
       rw [if_pos h4]
       exact hsame
      rw [if_neg h4]
      by_cases h5:(tryM S (cI o.acc gv 1 o.tick)).1=0
      case neg =>
       rw [if_pos h5]
       exact hsame
      rw [if_neg (fun q=>q h5)]
      exact hpost _
     ·exact hpost _
attribute [local irreducible] doM
theorem xU {S:LedM} {Y:YardM} (h:RunI 0 S Y) (hf:S.flows.length=0) (hit:S.cat.items.length=5) {ops:List OpM} (hl:ops.length≤18) (ho:∀ o∈ops,OpOk o):∀ n,n≤ops.length→(runS S Y ops n).1.flows.length≤2300*n
 | 0,_=>by show S.flows.length≤_;omega
 | n+1,hn=>by
  have hI:=ib h ab ho n ab
  have hcat:=jW h ab ho n ab
  have ih:=xU h hf hit hl ho n ab
  rw [fO ab]
  generalize runS S Y ops n=q at *
  have:=Fe hI ab (by rw [hcat];exact hit) ops[n]!
  omega
end Go.Proofs.YtfmgkkofledkbaaGreatDoor
namespace Go.Proofs.YtfmgkkofledkbaaGreatDoor
open Go.V
attribute [local irreducible] G GO GP GPW GPK Ev Ef EfR Ent CB GB V.Enters
section
theorem src1:SrcI (led0 3 cat16):=⟨iW ac,fun _ _ h=>absurd rfl h⟩
theorem Fo:qN (led0 3 cat16):=⟨iW ac,fun _ h=>by cases h⟩
attribute [local irreducible] doM runS
abbrev BB:List Stp:=[.ev 0,.ev 1,.ev 2,.ev 3,.ev 4,.ev 5,.ev 7,.ev 8,.ev 9,.ev 10,.ev 11,.ef 6,.ef 12,.ef 13,.ev 14,.ev 15,.ev 16,.ev 17,.ev 18,.ef 19,.ev 20,.ev 21]
theorem dE {φ ψ:Prop} (k:ψ) (h:Hid ψ→φ:=by intro k;(with_reducible apply G.a7);first|refine G.a6 (N:=51) (id:=8) BB mixed ah (Hid.out k)):φ:=h ⟨k⟩
theorem nW {L:List HP} (seed:Int) (hs:I64 seed) (ad:Option Addr) (n c:Nat) (xs:List Int) [hrd:Rds L ad Int (encZ .i64) 1 xs] (hn:n=xs.length) (hm:n≤9223372036854775807) (hx:∀ x∈xs,I64 x) :
  Tri Tryz.prog 7 #[.int .i64 seed,.slice ad n c] (bz::L) (fun v L'=>v=.bool true∧L' = L):=by
 subst hn
 refine Tri.body (args:=[.int .i64 seed,.slice ad xs.length c]) 51 en7 Tryz.func7 rfl rfl rfl (by simp) ?_
 repeat first|refine aa ?_|intro _|refine dE ?_
 refine GO.ef (Ef.a6 (sC seed hs) rfl) ac ?_
 rintro _ _ ⟨yb,lb,mb,rb,sb,c0,rfl,⟨hcm,hB⟩,rfl⟩
 refine GO.ent (L':=bF yb lb (ce (bY seed))::LedR lb (led0 3 cat16)::cZ mb rb (ce (bY seed))::aT rb (led0 3 cat16)::bz::L) ?_ ?_
 ·refine Ent.trans (B:=obj mb tRY [.pointer (some ⟨rb,0,none⟩),.slice (some ⟨sb,0,none⟩) 3 3,.slice none 0 0,.int .i64 0,.int .i64 0]::osl (encZ .u8) 1 lw (some ⟨sb,0,none⟩) 3 (bY seed)::obj rb tRL (rl0 3 c0)::catP c0::bF yb lb (ce (bY seed))::LedR lb (led0 3 cat16)::bz::L) ae ?_
  refine (pK mb rb sb seed).trans ?_
  refine Ent.trans (B:=obj rb tRL (rl0 3 c0)::catP c0::cZ mb rb (ce (bY seed))::bF yb lb (ce (bY seed))::LedR lb (led0 3 cat16)::bz::L) ae ?_
  refine (rJ rb c0 hcm hB).trans ?_
  exact ae
 repeat first|refine aa ?_|intro _|refine dE ?_
 refine GO.ef (Ef.a6 (uq ad xs.length c xs rfl hx 18 (Nat.le_refl _)) rfl) ac ?_
 rintro _ _ ⟨oad,ocap,ops,rfl,⟨hol,hoo⟩,rfl⟩
 have hinv:=ib (run0 seed) (ops:=ops) ab hoo
 have hsrc:=lD (Y:=ce (bY seed)) ky src1 (ops:=ops)
 have hhol:=xU (run0 seed) rfl rfl (ops:=ops) ab hoo
 have hflo:=lD (Y:=ce (bY seed)) za Fo (ops:=ops)
 repeat first|refine aa ?_|intro _|refine dE ?_
 refine G.loop (α:=Nat) (fun i=>i≤18) (fun i=>[(5,.pointer (some ⟨yb,0,none⟩)),(6,.pointer (some ⟨lb,0,none⟩)),(7,.pointer (some ⟨mb,0,none⟩)),(9,.slice oad ops.length ocap),(10,.int .i64 (i:Int))]) (fun i=>bF yb lb (runS (led0 3 cat16) (ce (bY seed)) ops i).2::LedR lb (runS (led0 3 cat16) (ce (bY seed)) ops i).1::cZ mb rb (runS (led0 3 cat16) (ce (bY seed)) ops i).2::aT rb (runS (led0 3 cat16) (ce (bY seed)) ops i).1::osl cH 6 tOp oad ocap ops::bz::L) (fun i=>18 - i) 0 (Nat.zero_le _) aj (by rw [rG];exact ae) ?_
 intro i hi
 have hI:=hinv i ab
 by_cases hlt:i<18
 case neg =>
  obtain rfl:i=18:=ab
  repeat first|refine aa ?_|intro _|refine dE ?_
  refine GO.ent (L':=bz::L) ae ?_
  refine GO.ef (Ef.a6 (kc) rfl) ac ?_
  rintro _ _ ⟨rfl,rfl⟩
  repeat first|refine aa ?_|intro _|refine dE ?_
  exact KX.a6 ai (Ent.refl _) ⟨rfl,rfl⟩
 have hlt2:i<ops.length:=ab
 have hsu:=fO (S:=led0 3 cat16) (Y:=ce (bY seed)) hlt2
 have hI2:=hinv (i+1) ab
 have hs2:=hsrc (i+1) ab
 have hf2:=hflo (i+1) ab
 have hn2:=hhol (i+1) ab
 have hok:=hoo _ (ap hlt2)
 have hii:(i:Int).toNat=i:=Int.toNat_natCast i
 obtain ⟨q,hq⟩:∃ q,runS (led0 3 cat16) (ce (bY seed)) ops i=q:=⟨_,rfl⟩
 rw [hq] at hI hsu ⊢
 obtain ⟨S,Y⟩:=q
 dsimp only at hI hsu ⊢
 have hrl:=yn (S:=S) (o:=ops[i]!) hI.yok.len
 have hd:=ym (L:=[]) yb lb Y S hI ops[i]! hok
 have hr:=tS (L:=[]) mb rb Y S hI ops[i]! hok
 obtain ⟨d,hdd⟩:∃ d,doM S Y ops[i]! = d:=⟨_,rfl⟩
 rw [hdd] at hrl hsu hd hr
 rw [hsu] at hI2 hs2 hf2 hn2
 have hlt' : (i:Int).toNat<ops.length:=ab
 rw [← hii] at hd hr
 repeat first|refine aa ?_|intro _|refine dE ?_
 (first|refine GPW.ef (Ef.call (hd) rfl (by repeat (first|exact Ent.refl _|apply Ent.take))) ac ?_)
 rintro _ _ ⟨_,⟨ad1,cap1,rfl,rfl⟩,hL⟩
 simp only [List.cons_append,List.nil_append] at hL;subst hL
 repeat first|refine aa ?_|intro _|refine dE ?_
 (first|refine GPW.ef (Ef.call (hr) rfl (by repeat (first|exact Ent.refl _|apply Ent.take))) ac ?_)
 rintro _ _ ⟨_,⟨ad2,cap2,rfl,rfl⟩,hL⟩
 simp only [List.cons_append,List.nil_append] at hL;subst hL
 repeat first|refine aa ?_|intro _|refine dE ?_
 refine GPW.ef (Ef.a6 (mO d.1 ad1 ad2 cap1 cap2 ab) rfl) ac ?_
 rintro _ _ ⟨rfl,rfl⟩
 repeat first|refine aa ?_|intro _|refine dE ?_
 refine GPW.ent (L':=bF yb lb d.2.2::LedR lb d.2.1::cZ mb rb d.2.2::aT rb d.2.1::osl (encZ .i64) 1 tInt ad1 cap1 d.1.l::osl (encZ .i64) 1 tInt ad2 cap2 d.1.l::osl cH 6 tOp oad ocap ops::bz::L) ae ?_
 refine GPW.ef (Ef.a6 (AQ yb lb mb rb d.2.2 d.2.1 hI2.yok hs2 hf2 ab) rfl) ac ?_
 rintro _ _ ⟨rfl,rfl⟩
 repeat first|refine aa ?_|intro _|refine dE ?_
 refine ⟨i+1,ab,ab,?_,?_⟩
 ·rw [aq i]
  exact aj
 ·rw [hsu]
  exact ae
end
end Go.Proofs.YtfmgkkofledkbaaGreatDoor
