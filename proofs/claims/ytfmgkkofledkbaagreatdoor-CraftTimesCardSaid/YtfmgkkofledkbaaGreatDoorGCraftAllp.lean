/- Lemmas and contracts of functions, in the order: Z15, Z16, Z17. -/
import Derived.Test.YtfmgkkofledkbaaGreatDoorGCraftAllu
import Derived.Test.YtfmgkkofledkbaaGreatDoorGCraftAllj
set_option linter.all false
set_option maxHeartbeats 4000000
namespace Go.V
theorem Tri.out {P:Program} {f:FuncId} {args:Array Value} {L:List HP} {post post' : Value→List HP→Prop} (h:Tri P f args L post) (hp:∀ v L',post v L'→∃ L'',Ent L' L''∧post' v L''):Tri P f args L post' :=
 ⟨h.enters,fun θ R w s=>(h.calls θ R w s).mono fun _ w' ⟨v,L',a,b,c⟩=>let ⟨L'',e,q⟩:=hp v L' b;⟨v,L'',a,q,e θ R w' c⟩⟩
theorem Tri.c8 {P:Program} {f:FuncId} {args:Array Value} {L:List HP} {post:Value→List HP→Prop} {φ:Prop} (en:Enters P f) (h:∀ θ R w,Sat θ (L++R) w→φ) (k:φ→Tri P f args L post):Tri P f args L post:=⟨en,fun θ R w s=>(k (h θ R w s)).calls θ R w s⟩
end Go.V
namespace Go.Proofs.YtfmgkkofledkbaaGreatDoor
open Go.V
attribute [local irreducible] G GO GP GPW GPK Ev Ef EfR Ent CB GB V.Enters
section
def MvPlain (ms:List MvV):Prop:=∀ m∈ms,m.m.parts=[]∧m.pad=none
theorem MvPlain.mk (l:List (Int×Int)) (times frm to:Int):MvPlain (l.map (bV times frm to)):=fun m hm=>by
 obtain ⟨a,_,rfl⟩:=List.mem_map.1 hm
 exact ⟨rfl,rfl⟩
theorem MvPlain.app {a b:List MvV} (h1:MvPlain a) (h2:MvPlain b):MvPlain (a++b):=fun m hm=>(List.mem_append.1 hm).elim (h1 m) (h2 m)
theorem va {ms:List MvV} (h:MvPlain ms) {L:List HP}:Ent L (allP mvP ms::L):=by
 induction ms with
 | nil=>exact Ent.c7 mvP
 | cons m ms ih =>
  obtain ⟨h1,h2⟩:=h m List.mem_cons_self
  refine (ih (fun x hx=>h x (List.mem_cons_of_mem _ hx))).trans ?_
  have e:mvP m=isl av 3 none []:=by unfold mvP;rw [h1,h2]
  refine Ent.trans (Ent.c8 av 3 none) ?_
  rw [← e]
  exact Ent.c9 (f:=mvP) kd
theorem ku {L:List HP} (b:Nat) (S:LedM) (hS:S.Ok) (hc:S.cat.Ok) (hg:CatGood S.cat) (kind actor tick rule times:Int) (ad:Option Addr) (n cap:Nat) (ms:List MvV) (hn:n=ms.length) (hk:cT kind) (hl:ms.length≤1000000) (hr:I64 rule) (h0:MvPlain ms) :
  Tri Tryz.prog 88 #[.pointer (some ⟨b,0,none⟩),.agg #[.int .i64 0,.int .i64 kind,.int .i64 actor,.int .i64 tick,.int .i64 rule,.int .i64 times,.slice ad n cap]] (aW b S::osl aJ 5 tMv ad cap ms::L) (fun v L'=>v=.tuple #[.int .i64 (cL S (cw kind actor tick rule times (ms.map (·.m)))),.int .i64 (tryM S (cw kind actor tick rule times (ms.map (·.m)))).1]∧L' = aW b (aI S (cw kind actor tick rule times (ms.map (·.m))))::L):=by
 subst hn
 refine Tri.c8 en88 (fe (ad:=ad)) ?_
 rintro ⟨hcp,_⟩
 have h:=zq (L:=L) b S hS hc hg ⟨0,kind,actor,tick,rule,times,ms,ad,cap⟩ ⟨hk,hl,hcp,hr,fun m hm=>by rw [(h0 m hm).1];exact Nat.zero_le _⟩
 refine (Tri.pre h ?_).out ?_
 ·refine (Ent.frz ad).trans ((va h0).trans ?_)
  exact ae
 ·rintro v L' ⟨rfl,rfl⟩
  exact ⟨_,Ent.a6 (Ent.drop.trans Ent.drop),rfl,rfl⟩
theorem Es {L:List HP} (b:Nat) (S:LedM) (hS:S.Ok) (hc:S.cat.Ok) (kind actor tick rule times:Int) (ad:Option Addr) (n cap:Nat) (ms:List MvV) (hn:n=ms.length) (hk:cT kind) (hl:ms.length≤1000000) (hr:I64 rule) (h0:MvPlain ms) :
  Tri Tryz.prog 63 #[.pointer (some ⟨b,0,none⟩),.agg #[.int .i64 0,.int .i64 kind,.int .i64 actor,.int .i64 tick,.int .i64 rule,.int .i64 times,.slice ad n cap]] (LedR b S::osl aJ 5 tMv ad cap ms::L) (fun v L'=>v=.tuple #[.int .i64 (cL S (cw kind actor tick rule times (ms.map (·.m)))),.int .i64 (tryM S (cw kind actor tick rule times (ms.map (·.m)))).1]∧L' = LedR b (aI S (cw kind actor tick rule times (ms.map (·.m))))::L):=by
 subst hn
 refine Tri.c8 en63 (fe (ad:=ad)) ?_
 rintro ⟨hcp,_⟩
 have h:=jJ (L:=L) b S hS hc ⟨0,kind,actor,tick,rule,times,ms,ad,cap⟩ ⟨hk,hl,hcp,hr,fun m hm=>by rw [(h0 m hm).1];exact Nat.zero_le _⟩ dF
 refine (Tri.pre h ?_).out ?_
 ·refine (Ent.frz ad).trans ((va h0).trans ?_)
  exact ae
 ·rintro v L' ⟨rfl,rfl⟩
  exact ⟨_,Ent.a6 (Ent.drop.trans Ent.drop),rfl,rfl⟩
noncomputable def bI (S:LedM) (Y:YardM) (acc rule times tick:Int):(Int×Int)×LedM×YardM :=
 if ¬(aM acc∧aV Y.tick S.now tick∧cn times) then ((0,1),S,Y)
 else if ¬dG S.cat.rules rule true then ((0,6),S,Y)
 else
  let s:=cK acc S.cat.rules[rule.toNat]!.give times tick
  ((cL S s,(tryM S s).1),aI S s,if (tryM S s).1=0 then { Y with tick:=tick } else Y)
theorem sj {S:LedM} {Y:YardM} {acc rule times tick:Int} (h:aM acc∧aV Y.tick S.now tick∧cn times) (h2:dG S.cat.rules rule true) {l:List (Int×Int)} (hr:S.cat.rules[rule.toNat]!.give=l) :
  bI S Y acc rule times tick=((cL S (cK acc l times tick),(tryM S (cK acc l times tick)).1),aI S (cK acc l times tick),if (tryM S (cK acc l times tick)).1=0 then { Y with tick:=tick } else Y):=by
 unfold bI
 rw [if_neg (fun q=>q h),if_neg (fun q=>q h2)]
 dsimp only
 rw [hr]
attribute [local irreducible] bI tryM aI cL
abbrev zQ:List Stp:=[.ev 0,.ev 1,.ev 2,.ev 3,.ev 4,.ev 5,.ev 6,.ev 7,.ev 8,.ev 9,.ev 10,.ev 11,.ev 12,.ev 13,.ev 14,.ev 15,.ev 16,.ev 17,.ev 18,.ef 19,.ev 20,.ef 21,.ev 22,.ev 23,.ev 24,.ev 25,.ev 26]
theorem dS {φ ψ:Prop} (k:ψ) (h:Hid ψ→φ:=by intro k;(with_reducible apply G.a7);first|refine G.a6 (N:=68) (id:=7) zQ mixed ah (Hid.out k)):φ:=h ⟨k⟩
theorem wo {L:List HP} (yb lb:Nat) (Y:YardM) (S:LedM) (hS:S.Ok) (hg:CatGood S.cat) (hc:S.cat.Ok) (acc rule times tick:Int) :
  Tri Tryz.prog 86 #[.pointer (some ⟨yb,0,none⟩),.int .i64 acc,.int .i64 rule,.int .i64 times,.int .i64 tick] (cZ yb lb Y::aW lb S::L) (fun v L'=>v=.tuple #[.int .i64 (bI S Y acc rule times tick).1.1,.int .i64 (bI S Y acc rule times tick).1.2]∧L' = cZ yb lb (bI S Y acc rule times tick).2.2::aW lb (bI S Y acc rule times tick).2.1::L):=by
 refine Tri.body (args:=[.pointer (some ⟨yb,0,none⟩),.int .i64 acc,.int .i64 rule,.int .i64 times,.int .i64 tick]) 68 en86 Tryz.func86 rfl rfl rfl (by simp) ?_
 refine G.c6 (f:=ryA yb lb Y) ?_
 intro y
 simp only [ryA,ryL,List.cons_append,List.nil_append]
 have hyc:=ed (yb:=yb) (lb:=lb) (Y:=Y) (L:=aW lb S::L) y
 simp only [ryL] at hyc
 have hno:¬(aM acc∧aV Y.tick S.now tick∧cn times)→bI S Y acc rule times tick=((0,1),S,Y):=by
  intro h
  unfold bI
  rw [if_pos h]
 refine G.ent (L':=aW lb S::obj yb tRY (aT lb Y y)::isl (encZ .u8) 1 y.sad Y.seed::osl aq 10 tRJ y.jad y.jcap Y.jobs::L) ae ?_
 repeat first|refine aa ?_|intro _|refine dS ?_
 refine GO.ef (Ef.a6 (iQ yb lb Y y S hS acc tick) rfl) ac ?_
 rintro _ _ ⟨rfl,rfl⟩
 by_cases h1:aM acc∧aV Y.tick S.now tick
 case neg =>
  rw [hno (fun h=>h1 ⟨h.1,h.2.1⟩),an h1]
  repeat first|refine aa ?_|intro _|refine dS ?_
  exact KX.a6 ai (Ent.trans ae hyc) ⟨rfl,rfl⟩
 rw [aw h1]
 by_cases h2:1≤times
 case neg =>
  rw [hno (fun h=>h2 h.2.2.1)]
  repeat first|refine aa ?_|intro _|refine dS ?_
  exact KX.a6 ai (Ent.trans ae hyc) ⟨rfl,rfl⟩
 by_cases h3:times≤1000
 case neg =>
  rw [hno (fun h=>h3 h.2.2.2)]
  repeat first|refine aa ?_|intro _|refine dS ?_
  exact KX.a6 ai (Ent.trans ae hyc) ⟨rfl,rfl⟩
 clear hno
 repeat first|refine aa ?_|intro _|refine dS ?_
 refine GO.c7 (f:=eQ lb S) ?_
 intro x
 simp only [eQ,rlL,az,List.cons_append,List.nil_append]
 refine GO.d7 ?_
 intro hF
 have hrc:=df (b:=lb) (S:=S) (L:=obj yb tRY (aT lb Y y)::isl (encZ .u8) 1 y.sad Y.seed::osl aq 10 tRJ y.jad y.jcap Y.jobs::L) x hF
 simp only [rlL,az] at hrc
 refine GO.ent (Ent.at (A:=catP x.cat) catOpenR) ?_
 refine GO.ef (Ef.a6 (me (yb:=yb) (lb:=lb) (sh:=S.shard) (Y:=Y) (y:=y) (x:=x) hF.catB rule true) rfl) ac ?_
 rintro _ _ ⟨rfl,rfl⟩
 rw [hF.cat]
 by_cases h4:dG S.cat.rules rule true
 case neg =>
  have e:bI S Y acc rule times tick=((0,6),S,Y):=by
   unfold bI
   rw [if_neg (fun q=>q ⟨h1.1,h1.2,h2,h3⟩),if_pos h4]
  rw [e,an h4]
  repeat first|refine aa ?_|intro _|refine dS ?_
  exact KX.a6 ai (Ent.trans (Ent.trans ae hrc) (Ent.trans ae hyc)) ⟨rfl,rfl⟩
 rw [aw h4]
 have hcr:(x.cat.rules.map RuV.m)=S.cat.rules:=by rw [← hF.cat];rfl
 have hrl:S.cat.rules.length=x.cat.rules.length:=by rw [← hcr];simp
 have hil:rule.toNat<x.cat.rules.length:=by have:=h4.1;have:=h4.2.1;omega
 have hi0:0≤rule:=h4.1
 have hru:S.cat.rules[rule.toNat]! = x.cat.rules[rule.toNat]!.m:=by rw [← hcr];exact fD x.cat.rules hil
 have hrg:=hg.ru _ (ap (show rule.toNat<S.cat.rules.length by omega))
 have hgv:S.cat.rules[rule.toNat]!.give=x.cat.rules[rule.toNat]!.give.l:=by rw [hru];rfl
 have hgl:x.cat.rules[rule.toNat]!.give.l.length≤64:=by rw [← hgv];have:=hrg.lim.1;omega
 have hga:AmB x.cat.rules[rule.toNat]!.give.l:=by
  rw [← hgv]
  exact fun a ha=>⟨by have:=hrg.give.1 a ha;omega,(hrg.give.1 a ha).2.2.2⟩
 rw [sj ⟨h1.1,h1.2,h2,h3⟩ h4 hgv]
 clear hgv hrg
 refine GO.ent ((Ent.at (A:=allP ruP x.cat.rules) (Ent.a8 (f:=ruP) (ap hil))).trans ruOpen) ?_
 repeat first|refine aa ?_|intro _|refine dS ?_
 refine GPW.ef (Ef.a6 (fN x.cat.rules[rule.toNat]!.give.ad x.cat.rules[rule.toNat]!.give.l.length x.cat.rules[rule.toNat]!.give.cap x.cat.rules[rule.toNat]!.give.l times 0 acc rfl hgl hga ab) rfl) ac ?_
 rintro _ _ ⟨ad2,cap2,rfl,rfl⟩
 repeat first|refine aa ?_|intro _|refine dS ?_
 refine GPW.ent (L':=aW lb S::osl aJ 5 tMv ad2 cap2 (x.cat.rules[rule.toNat]!.give.l.map (bV times 0 acc))::obj yb tRY (aT lb Y y)::isl (encZ .u8) 1 y.sad Y.seed::osl aq 10 tRJ y.jad y.jcap Y.jobs::L) ?_ ?_
 ·refine Ent.trans ?_ (df (b:=lb) (S:=S) x hF)
  simp only [rlL,az]
  exact ae
 have hpost:=ku (L:=obj yb tRY (aT lb Y y)::isl (encZ .u8) 1 y.sad Y.seed::osl aq 10 tRJ y.jad y.jcap Y.jobs::L) lb S hS hc hg 0 0 tick (-1) 0 ad2 x.cat.rules[rule.toNat]!.give.l.length cap2 (x.cat.rules[rule.toNat]!.give.l.map (bV times 0 acc)) (by rw [List.length_map]) (.inl rfl) (by rw [List.length_map];omega) (by unfold I64;omega) (MvPlain.mk _ _ _ _)
 rw [jh] at hpost
 refine GPW.ef (Ef.a6 (hpost) rfl) ac ?_
 rintro _ _ ⟨rfl,rfl⟩
 obtain ⟨s,hs⟩:∃ s,s=cK acc x.cat.rules[rule.toNat]!.give.l times tick:=⟨_,rfl⟩
 have hs' : cw 0 0 tick (-1) 0 (x.cat.rules[rule.toNat]!.give.l.map (mkMv times 0 acc))=s:=hs.symm
 rw [← hs,hs']
 by_cases h5:(tryM S s).1=0
 ·rw [if_pos h5]
  repeat first|refine aa ?_|intro _|refine dS ?_
  refine KX.a6 ai ?_ ⟨rfl,rfl⟩
  refine Ent.trans ?_ (ed (yb:=yb) (lb:=lb) (Y:={ Y with tick:=tick }) (L:=aW lb (aI S s)::L) y)
  simp only [ryL]
  exact ae
 ·rw [if_neg h5]
  repeat first|refine aa ?_|intro _|refine dS ?_
  refine KX.a6 ai ?_ ⟨rfl,rfl⟩
  refine Ent.trans ?_ (ed (yb:=yb) (lb:=lb) (Y:=Y) (L:=aW lb (aI S s)::L) y)
  simp only [ryL]
  exact ae
end
section
def opTo (js:List JobM) (a:Int) (i:Nat):List Int:=((List.range i).filter (fun k=>decide (js[k]!.acc=a) && !js[k]!.done)).map (fun k:Nat=>(k:Int))
theorem Dz (js:List JobM) (a:Int):opTo js a js.length=aG js a:=rfl
theorem EY {js:List JobM} {a:Int} {i:Nat} (h1:js[i]!.acc=a) (h2:js[i]!.done=false):opTo js a (i+1)=opTo js a i++[(i:Int)]:=by
 have e:(decide (js[i]!.acc=a) && !js[i]!.done)=true:=by rw [h1,h2,decide_eq_true rfl];rfl
 have e2:List.filter (fun k:Nat=>decide (js[k]!.acc=a) && !js[k]!.done) [i]=[i]:=List.filter_cons_of_pos (l:=[]) e
 unfold opTo
 rw [List.range_succ,List.filter_append,List.map_append,e2]
 rfl
theorem uX {js:List JobM} {a:Int} {i:Nat} (h:¬(js[i]!.acc=a∧js[i]!.done=false)):opTo js a (i+1)=opTo js a i:=by
 have e:¬(decide (js[i]!.acc=a) && !js[i]!.done)=true:=fun q=>h (by
  rw [Bool.and_eq_true,decide_eq_true_eq,Bool.not_eq_true'] at q
  exact q)
 have e2:List.filter (fun k:Nat=>decide (js[k]!.acc=a) && !js[k]!.done) [i]=[]:=List.filter_cons_of_neg (l:=[]) e
 unfold opTo
 rw [List.range_succ,List.filter_append,List.map_append,e2,List.map_nil,List.append_nil]
attribute [local irreducible] bC tryM aI cL
abbrev wV:List Stp:=[.ev 0,.ev 1,.ev 2,.ev 3,.ev 4,.ev 5,.ev 6,.ev 7,.ev 8,.ev 9,.ev 10,.ev 11,.ev 12,.ev 13,.ev 14,.ev 15,.ef 16,.ef 17]
abbrev wU:List Stp:=[.ev 0,.ev 1,.ev 2,.ev 3,.ev 4,.ev 5,.ev 6,.ev 7,.ev 8,.ev 9,.ev 10,.ev 11,.ef 12,.ev 13,.ef 14,.ev 15,.ev 16,.ev 17,.ev 18,.ev 19]
abbrev wT:List Stp:=[.ev 0,.ev 1,.ev 2,.ev 3,.ev 4,.ev 5,.ev 6,.ev 7,.ev 8,.ev 9,.ev 10,.ev 11,.ef 12]
abbrev wS:List Stp:=[.ev 0,.ev 1,.ev 2,.ev 3,.ev 4,.ev 5,.ef 6,.ef 7,.ev 8,.ev 9,.ef 10]
theorem bM {φ ψ:Prop} (k:ψ) (h:Hid ψ→φ:=by intro k;(with_reducible apply G.a7);first|refine G.a6 (N:=166) (id:=12) wV mixed ah (Hid.out k)|refine G.a6 (N:=166) (id:=14) wU mixed ah (Hid.out k)|refine G.a6 (N:=166) (id:=21) wT mixed ah (Hid.out k)|refine G.a6 (N:=166) (id:=24) wS mixed ah (Hid.out k)):φ:=h ⟨k⟩
theorem wm {L:List HP} (yb lb:Nat) (Y:YardM) (hY:Y.Ok) (S:LedM) (hS:S.Ok) (hg:CatGood S.cat) (hc:S.cat.Ok) (acc level rule times tick:Int) :
  Tri Tryz.prog 83 #[.pointer (some ⟨yb,0,none⟩),.int .i64 acc,.int .i64 level,.int .i64 rule,.int .i64 times,.int .i64 tick] (cZ yb lb Y::aW lb S::L) (fun v L'=>v=.tuple #[.int .i64 (bC S Y acc level rule times tick).1.1,.int .i64 (bC S Y acc level rule times tick).1.2]∧L' = cZ yb lb (bC S Y acc level rule times tick).2.2::aW lb (bC S Y acc level rule times tick).2.1::L):=by
 have hjl:=hY.len
 refine Tri.body (args:=[.pointer (some ⟨yb,0,none⟩),.int .i64 acc,.int .i64 level,.int .i64 rule,.int .i64 times,.int .i64 tick]) 166 en83 Tryz.func83 rfl rfl rfl (by simp) ?_
 refine G.c6 (f:=ryA yb lb Y) ?_
 intro y
 simp only [ryA,ryL,List.cons_append,List.nil_append]
 have hyc:=ed (yb:=yb) (lb:=lb) (Y:=Y) (L:=aW lb S::L) y
 simp only [ryL] at hyc
 have hno:¬(aM acc∧aV Y.tick S.now tick∧cn times)→bC S Y acc level rule times tick=((0,1),S,Y):=by
  intro h
  unfold bC
  rw [if_pos h]
 refine G.ent (L':=aW lb S::obj yb tRY (aT lb Y y)::isl (encZ .u8) 1 y.sad Y.seed::osl aq 10 tRJ y.jad y.jcap Y.jobs::L) ae ?_
 repeat first|refine aa ?_|intro _|refine bM ?_
 refine GO.ef (Ef.a6 (iQ yb lb Y y S hS acc tick) rfl) ac ?_
 rintro _ _ ⟨rfl,rfl⟩
 by_cases h1:aM acc∧aV Y.tick S.now tick
 case neg =>
  rw [hno (fun h=>h1 ⟨h.1,h.2.1⟩),an h1]
  repeat first|refine aa ?_|intro _|refine bM ?_
  exact KX.a6 ai (Ent.trans ae hyc) ⟨rfl,rfl⟩
 rw [aw h1]
 by_cases h2:1≤times
 case neg =>
  rw [hno (fun h=>h2 h.2.2.1)]
  repeat first|refine aa ?_|intro _|refine bM ?_
  exact KX.a6 ai (Ent.trans ae hyc) ⟨rfl,rfl⟩
 by_cases h3:times≤1000
 case neg =>
  rw [hno (fun h=>h3 h.2.2.2)]
  repeat first|refine aa ?_|intro _|refine bM ?_
  exact KX.a6 ai (Ent.trans ae hyc) ⟨rfl,rfl⟩
 clear hno
 repeat first|refine aa ?_|intro _|refine bM ?_
 refine GO.c7 (f:=eQ lb S) ?_
 intro x
 simp only [eQ,rlL,az,List.cons_append,List.nil_append]
 refine GO.d7 ?_
 intro hF
 have hrc:=df (b:=lb) (S:=S) (L:=obj yb tRY (aT lb Y y)::isl (encZ .u8) 1 y.sad Y.seed::osl aq 10 tRJ y.jad y.jcap Y.jobs::L) x hF
 simp only [rlL,az] at hrc
 refine GO.ent (Ent.at (A:=catP x.cat) catOpenR) ?_
 refine GO.ef (Ef.a6 (me (yb:=yb) (lb:=lb) (sh:=S.shard) (Y:=Y) (y:=y) (x:=x) hF.catB rule false) rfl) ac ?_
 rintro _ _ ⟨rfl,rfl⟩
 rw [hF.cat]
 by_cases h4:dG S.cat.rules rule false
 case neg =>
  have e:bC S Y acc level rule times tick=((0,6),S,Y):=by
   unfold bC
   rw [if_neg (fun q=>q ⟨h1.1,h1.2,h2,h3⟩),if_pos h4]
  rw [e,an h4]
  repeat first|refine aa ?_|intro _|refine bM ?_
  exact KX.a6 ai (Ent.trans (Ent.trans ae hrc) (Ent.trans ae hyc)) ⟨rfl,rfl⟩
 rw [aw h4]
 have hcr:(x.cat.rules.map RuV.m)=S.cat.rules:=by rw [← hF.cat];rfl
 have hrl:S.cat.rules.length=x.cat.rules.length:=by rw [← hcr];simp
 have hil:rule.toNat<x.cat.rules.length:=by have:=h4.1;have:=h4.2.1;omega
 have hi0:0≤rule:=h4.1
 have hru:S.cat.rules[rule.toNat]! = x.cat.rules[rule.toNat]!.m:=by rw [← hcr];exact fD x.cat.rules hil
 have hrg:=hg.ru _ (ap (show rule.toNat<S.cat.rules.length by omega))
 repeat first|((fail_if_success (with_reducible refine G.c7 8 ?_));(with_reducible apply G.seq))|refine aL ?_|intro _|refine bM ?_
 rename_i b16
 obtain ⟨r,hrv⟩:∃ r,x.cat.rules[rule.toNat]! = r:=⟨_,rfl⟩
 rw [hrv] at hru
 rw [hru] at hrg
 have hst:=iD (level:=level) (Y:=Y) ⟨h1.1,h1.2,h2,h3⟩ h4 hru
 refine G.ent (L':=amS r.take::obj b16 67 (aA r)::aW lb S::obj yb tRY (aT lb Y y)::isl (encZ .u8) 1 y.sad Y.seed::osl aq 10 tRJ y.jad y.jcap Y.jobs::L) ?_ ?_
 ·have hm:r∈x.cat.rules:=by rw [← hrv];exact ap hil
  refine (Ent.at (A:=allP ruP x.cat.rules) (Ent.a8 (f:=ruP) hm)).trans (ruOpen.trans ?_)
  rw [hrv]
  refine Ent.trans (B:=aW lb S::amS r.take::obj b16 67 (aA r)::obj yb tRY (aT lb Y y)::isl (encZ .u8) 1 y.sad Y.seed::osl aq 10 tRJ y.jad y.jcap Y.jobs::L) ?_ ae
  refine Ent.trans ?_ (df (b:=lb) (S:=S) x hF)
  simp only [rlL,az]
  exact ae
 rw [hst]
 clear hst hrc
 simp only [aA]
 by_cases h5:level<r.level
 ·rw [if_pos (show level<r.m.level from h5)]
  repeat first|refine aa ?_|intro _|refine bM ?_
  exact KX.a6 ai (Ent.trans ae hyc) ⟨rfl,rfl⟩
 rw [if_neg (show ¬level<r.m.level from h5)]
 obtain ⟨hgt1,hgt2⟩:=hrg.take
 have hlim:=hrg.lim
 have htl:r.take.l.length≤64:=by have:r.m.take=r.take.l:=rfl;rw [← this];omega
 have hga:AmB r.take.l:=fun a ha=>⟨by have:=hgt1 a ha;omega,(hgt1 a ha).2.2.2⟩
 obtain ⟨s,hs⟩:∃ s,s=eE acc r.take.l times tick (536870912+(Y.jobs.length:Int)):=⟨_,rfl⟩
 rw [show r.m.take=r.take.l from rfl,show r.m.time=r.time from rfl,← hs]
 repeat first|((fail_if_success (with_reducible refine G.c7 13 ?_));(with_reducible apply G.seq))|refine aL ?_|intro _|refine bM ?_
 rename_i b17
 refine G.a8 (α:=LedM) (fun S'=>S' = (if r.take.l.length=0 then S else aI S s)∧¬(r.take.l.length≠0∧(tryM S s).1≠0)) (fun _=>[(0,.pointer (some ⟨yb,0,none⟩)),(1,.int .i64 acc),(5,.int .i64 tick),(16,.pointer (some ⟨b16,0,none⟩)),(17,.pointer (some ⟨b17,0,none⟩))]) (fun S'=>obj b17 tRJ [.int .i64 (Y.jobs.length:Int),.int .i64 acc,.int .i64 (536870912+(Y.jobs.length:Int)),.int .i64 rule,.int .i64 times,.int .i64 tick,.int .i64 0,.bool false,.int .i64 0,.int .i64 0]::obj b16 67 [.string r.name,.bool r.spawn,.int .i64 r.level,.int .i64 r.time,.int .i64 r.chance,.int .i64 r.of_,.slice r.take.ad r.take.l.length r.take.cap,.slice r.give.ad r.give.l.length r.give.cap,.slice r.back.ad r.back.l.length r.back.cap]::aW lb S'::obj yb tRY (aT lb Y y)::isl (encZ .u8) 1 y.sad Y.seed::osl aq 10 tRJ y.jad y.jcap Y.jobs::L) ?_ ?_
 ·by_cases h6:r.take.l.length=0
  ·repeat first|refine aa ?_|intro _|refine bM ?_
   exact ⟨S,⟨by rw [if_pos h6],fun h=>h.1 h6⟩,aj,by exact ae⟩
  repeat first|refine aa ?_|intro _|refine bM ?_
  refine GPW.ef (Ef.a6 (fN r.take.ad r.take.l.length r.take.cap r.take.l times acc (536870912+(Y.jobs.length:Int)) rfl htl hga ab) rfl) ac ?_
  rintro _ _ ⟨ad2,cap2,rfl,rfl⟩
  repeat first|refine aa ?_|intro _|refine bM ?_
  have hpost:=ku (L:=amS r.take::obj b17 tRJ [.int .i64 (Y.jobs.length:Int),.int .i64 acc,.int .i64 (536870912+(Y.jobs.length:Int)),.int .i64 rule,.int .i64 times,.int .i64 tick,.int .i64 0,.bool false,.int .i64 0,.int .i64 0]::obj b16 67 [.string r.name,.bool r.spawn,.int .i64 r.level,.int .i64 r.time,.int .i64 r.chance,.int .i64 r.of_,.slice r.take.ad r.take.l.length r.take.cap,.slice r.give.ad r.give.l.length r.give.cap,.slice r.back.ad r.back.l.length r.back.cap]::obj yb tRY (aT lb Y y)::isl (encZ .u8) 1 y.sad Y.seed::osl aq 10 tRJ y.jad y.jcap Y.jobs::L) lb S hS hc hg 2 acc tick (-1) 0 ad2 r.take.l.length cap2 (r.take.l.map (bV times acc (536870912+(Y.jobs.length:Int)))) (by rw [List.length_map]) jl (by rw [List.length_map];omega) (by unfold I64;omega) (MvPlain.mk _ _ _ _)
  rw [jh,show cw 2 acc tick (-1) 0 (r.take.l.map (mkMv times acc (536870912+(Y.jobs.length:Int))))=s from hs.symm] at hpost
  refine GPW.ef (Ef.a6 (Tri.pre hpost ae) rfl) ac ?_
  rintro _ _ ⟨rfl,rfl⟩
  by_cases h10:(tryM S s).1=0
  case neg =>
   rw [if_pos (show r.take.l.length≠0∧(tryM S s).1≠0 from ⟨h6,h10⟩),jK h10]
   repeat first|refine aa ?_|intro _|refine bM ?_
   exact KX.a6 ai (Ent.trans ae hyc) ⟨rfl,rfl⟩
  repeat first|refine aa ?_|intro _|refine bM ?_
  exact ⟨aI S s,⟨by rw [if_neg h6],fun h=>h.2 h10⟩,aj,by exact ae⟩
 rintro S' ⟨hS',hok⟩
 rw [if_neg hok,← hS']
 have hfb:∀ k,k<Y.jobs.length→Y.jobs[k]!.fin≤1099511627776+1000000*60:=fun k hk=>by have:=(hY.num k hk).2.2.1.2.2;omega
 have htk:0≤tick∧tick≤1099511627776:=by have:=hY.tick;have:=h1.2;unfold aV at this;omega
 repeat first|refine aa ?_|intro _|refine bM ?_
 refine G.loop (α:=Nat) (fun i=>i≤Y.jobs.length) (fun i=>[(0,.pointer (some ⟨yb,0,none⟩)),(1,.int .i64 acc),(5,.int .i64 tick),(16,.pointer (some ⟨b16,0,none⟩)),(17,.pointer (some ⟨b17,0,none⟩)),(20,.int .i64 (i:Int))]) (fun i=>obj b17 tRJ [.int .i64 (Y.jobs.length:Int),.int .i64 acc,.int .i64 (536870912+(Y.jobs.length:Int)),.int .i64 rule,.int .i64 times,.int .i64 (begM Y.jobs (opTo Y.jobs acc i) tick),.int .i64 0,.bool false,.int .i64 0,.int .i64 0]::obj b16 67 [.string r.name,.bool r.spawn,.int .i64 r.level,.int .i64 r.time,.int .i64 r.chance,.int .i64 r.of_,.slice r.take.ad r.take.l.length r.take.cap,.slice r.give.ad r.give.l.length r.give.cap,.slice r.back.ad r.back.l.length r.back.cap]::aW lb S'::obj yb tRY (aT lb Y y)::isl (encZ .u8) 1 y.sad Y.seed::osl aq 10 tRJ y.jad y.jcap Y.jobs::L) (fun i=>Y.jobs.length - i) 0 (Nat.zero_le _) aj ae ?_
 intro i hi
 by_cases hlt:i<Y.jobs.length
 case neg =>
  obtain rfl:i=Y.jobs.length:=ab
  rw [Dz]
  have hbb:=oB hfb (aG Y.jobs acc) tick (fun k hk=>fE hk) htk.1 ab
  have hrt:0≤r.time∧r.time≤1000000:=hrg.num.2.1
  repeat first|refine aa ?_|intro _|refine bM ?_
  obtain ⟨j,hj⟩:∃ j:JobM,j=⟨Y.jobs.length,acc,536870912+Y.jobs.length,rule,times,begM Y.jobs (aG Y.jobs acc) tick,begM Y.jobs (aG Y.jobs acc) tick+r.time,false,0,0⟩:=⟨_,rfl⟩
  refine GPW.ef (Ef.a7 (enc:=aq) j rfl rfl (by rw [hj];rfl) rfl rfl (by rfl) (by simp [Value.oneCell']) ab ab) ac ?_
  rintro _ _ ⟨ad3,cap3,rfl,rfl⟩
  repeat first|refine aa ?_|intro _|refine bM ?_
  have hcl:=ed (yb:=yb) (lb:=lb) (Y:={ Y with jobs:=Y.jobs++[j],tick:=tick }) (L:=aW lb S'::L) { y with jad:=ad3,jcap:=cap3 }
  rw [hj] at hcl ⊢
  refine KX.a6 ai (Ent.trans ?_ hcl) ⟨rfl,rfl⟩
  simp only [ryL]
  exact ae
 have hii:(i:Int).toNat=i:=Int.toNat_natCast i
 have e:=ti Y.jobs (opTo Y.jobs acc i) (i:Int) tick
 rw [hii] at e
 have hlt' : (i:Int).toNat<Y.jobs.length:=ab
 by_cases h6:Y.jobs[(i:Int).toNat]!.acc=acc
 ·cases h7:Y.jobs[(i:Int).toNat]!.done with
  | true =>
   repeat first|refine aa ?_|intro _|refine bM ?_
   simp only [h7,Bool.not_true,Bool.not_false]
   repeat first|refine aa ?_|intro _|refine bM ?_
   rw [hii] at h6 h7
   refine ⟨i+1,ab,ab,?_,?_⟩
   ·rw [show ((i+1:Nat):Int)=(i:Int)+1 by omega]
    exact aj
   ·rw [uX (fun q=>by rw [h7] at q;cases q.2)]
    exact ae
  | false =>
   repeat first|refine aa ?_|intro _|refine bM ?_
   simp only [h7,Bool.not_true,Bool.not_false]
   repeat first|refine aa ?_|intro _|refine bM ?_
   rw [hii] at h6 h7 ⊢
   refine ⟨i+1,ab,ab,?_,?_⟩
   ·rw [show ((i+1:Nat):Int)=(i:Int)+1 by omega]
    exact aj
   ·rw [EY h6 h7,e]
    exact ae
 ·repeat first|refine aa ?_|intro _|refine bM ?_
  rw [hii] at h6
  refine ⟨i+1,ab,ab,?_,?_⟩
  ·rw [show ((i+1:Nat):Int)=(i:Int)+1 by omega]
   exact aj
  ·rw [uX (fun q=>h6 q.1)]
   exact ae
end
section
theorem DS (acc tick hold:Int) (S:LedM):gbM acc tick hold S 0=S:=rfl
attribute [local irreducible] gbM gbS tryM aI cL
abbrev wR:List Stp:=[.ev 0,.ev 1,.ev 2,.ev 3,.ev 4,.ev 5,.ev 6,.ef 7,.ev 8]
abbrev wQ:List Stp:=[.ev 0,.ev 1,.ev 2,.ev 3,.ev 4,.ev 5,.ev 6,.ev 7,.ev 8,.ev 9,.ev 10,.ev 11,.ev 12,.ev 13,.ef 14,.ev 15,.ef 16]
theorem fT {φ ψ:Prop} (k:ψ) (h:Hid ψ→φ:=by intro k;(with_reducible apply G.a7);first|refine G.a6 (N:=48) (id:=4) wR mixed ah (Hid.out k)|refine G.a6 (N:=48) (id:=6) wQ mixed ah (Hid.out k)):φ:=h ⟨k⟩
theorem qB {L:List HP} (yb lb:Nat) (Y:YardM) (y:RYX) (S:LedM) (hS:S.Ok) (hg:CatGood S.cat) (hc:S.cat.Ok) (j:JobM) (tick:Int) :
  Tri Tryz.prog 126 #[.pointer (some ⟨yb,0,none⟩),.agg (aq j).toArray,.int .i64 tick] (aW lb S::obj yb tRY (aT lb Y y)::L) (fun _ L'=>L' = aW lb (gbM j.acc tick j.hold S S.cat.items.length)::obj yb tRY (aT lb Y y)::L):=by
 have hil:=hg.items
 refine Tri.body (args:=[.pointer (some ⟨yb,0,none⟩),.agg (aq j).toArray,.int .i64 tick]) 48 Jk Tryz.func126 rfl rfl rfl (by simp) ?_
 simp only [aq]
 repeat first|refine aa ?_|intro _|refine fT ?_
 rename_i b4
 refine G.loop (α:=Nat) (fun i=>i≤S.cat.items.length) (fun i=>[(0,.pointer (some ⟨yb,0,none⟩)),(2,.int .i64 tick),(4,.pointer (some ⟨b4,0,none⟩)),(6,.int .i64 (i:Int))]) (fun i=>aW lb (gbM j.acc tick j.hold S i)::obj b4 tRJ [.int .i64 j.id,.int .i64 j.acc,.int .i64 j.hold,.int .i64 j.rule,.int .i64 j.times,.int .i64 j.beg,.int .i64 j.fin,.bool j.done,.int .i64 j.won,.int .i64 j.lost]::obj yb tRY (aT lb Y y)::L) (fun i=>S.cat.items.length - i) 0 (Nat.zero_le _) aj (by rw [DS];exact ae) ?_
 intro i hi
 obtain ⟨hg1,hg2⟩:=lH (acc:=j.acc) (tick:=tick) (hold:=j.hold) hS i
 have hsu:=jo j.acc tick j.hold S i
 obtain ⟨T,hT⟩:∃ T,T=gbM j.acc tick j.hold S i:=⟨_,rfl⟩
 rw [← hT] at hg1 hg2 hsu ⊢
 refine G.c6 (f:=eQ lb T) ?_
 intro x
 simp only [eQ,rlL,az,List.cons_append,List.nil_append]
 refine G.c8 ?_
 intro hF
 have hcl:S.cat.items.length=x.cat.items.length:=by rw [← hg2,← hF.cat];rfl
 have hfl:=hF.len
 have hff:=hg1.flows
 have hfs:=hg1.steps
 have hxf:x.flows.length=T.flows.length:=by rw [← hF.flows];simp
 have hrc:=df (b:=lb) (S:=T) (L:=obj b4 tRJ [.int .i64 j.id,.int .i64 j.acc,.int .i64 j.hold,.int .i64 j.rule,.int .i64 j.times,.int .i64 j.beg,.int .i64 j.fin,.bool j.done,.int .i64 j.won,.int .i64 j.lost]::obj yb tRY (aT lb Y y)::L) x hF
 simp only [rlL,az] at hrc
 by_cases hlt:i<S.cat.items.length
 case neg =>
  obtain rfl:i=S.cat.items.length:=ab
  repeat first|refine aa ?_|intro _|refine fT ?_
  refine KX.a8 ai ?_ rfl
  rw [← hT]
  refine Ent.trans (Ent.trans ?_ hrc) ?_
  ·exact ae
  ·exact ae
 repeat first|refine aa ?_|intro _|refine fT ?_
 refine GPW.ent (L':=rlL lb T.shard x (obj b4 tRJ [.int .i64 j.id,.int .i64 j.acc,.int .i64 j.hold,.int .i64 j.rule,.int .i64 j.times,.int .i64 j.beg,.int .i64 j.fin,.bool j.done,.int .i64 j.won,.int .i64 j.lost]::obj yb tRY (aT lb Y y)::L)) (by simp only [rlL,az];exact ae) ?_
 refine GPW.ef (Ef.a6 (BS lb T.shard x j.hold (i:Int) ab hF.ok) rfl) ac ?_
 rintro _ _ ⟨rfl,rfl⟩
 rw [hF.lots]
 have hnn:=rK (hg1.stk j.hold (i:Int)).2
 obtain ⟨n,hn⟩:∃ n,lsum (T.stk j.hold (i:Int))=n:=⟨_,rfl⟩
 rw [hn] at hnn ⊢
 simp only [rlL,az]
 by_cases h0:n=0
 ·have e:gbS j.acc tick j.hold T (i:Int)=T:=by unfold gbS;rw [if_pos (hn.trans h0)]
  rw [e] at hsu
  repeat first|refine aa ?_|intro _|refine fT ?_
  refine ⟨i+1,ab,ab,?_,?_⟩
  ·rw [show ((i+1:Nat):Int)=(i:Int)+1 by omega]
   exact aj
  ·rw [hsu]
   exact Ent.trans ae hrc
 have e:gbS j.acc tick j.hold T (i:Int)=aI T (gbT j.acc tick j.hold (i:Int) n):=by unfold gbS;rw [if_neg (by rw [hn];exact h0),hn]
 rw [e] at hsu
 have hpos:n>0:=ab
 repeat first|refine aa ?_|intro _|refine fT ?_
 rename_i b45
 obtain ⟨mv,hmv⟩:∃ mv:MvV,mv=⟨⟨j.hold,j.acc,i,n,[]⟩,none,0⟩:=⟨_,rfl⟩
 have hmc:([.int .i64 j.hold,.int .i64 j.acc,.int .i64 (i:Int),.int .i64 n,.slice none 0 0]:List Value)=aJ mv:=by rw [hmv];rfl
 refine GPW.ent (L':=aW lb T::osl aJ 5 tMv (some ⟨b45,0,none⟩) 1 [mv]::obj b4 tRJ [.int .i64 j.id,.int .i64 j.acc,.int .i64 j.hold,.int .i64 j.rule,.int .i64 j.times,.int .i64 j.beg,.int .i64 j.fin,.bool j.done,.int .i64 j.won,.int .i64 j.lost]::obj yb tRY (aT lb Y y)::L) ?_ ?_
 ·rw [hmc]
  refine Ent.trans (Ent.c6 (enc:=aJ) (sz:=5) (xs:=[mv]) (by simp) rfl (by intro z hz;simp at hz;subst hz;rfl) (by simp)) ?_
  refine Ent.trans ?_ (df (b:=lb) (S:=T) x hF)
  simp only [rlL,az]
  exact ae
 have hpost:=ku (L:=obj b4 tRJ [.int .i64 j.id,.int .i64 j.acc,.int .i64 j.hold,.int .i64 j.rule,.int .i64 j.times,.int .i64 j.beg,.int .i64 j.fin,.bool j.done,.int .i64 j.won,.int .i64 j.lost]::obj yb tRY (aT lb Y y)::L) lb T hg1 (by rw [hg2];exact hc) (by rw [hg2];exact hg) 2 j.acc tick (-1) 0 (some ⟨b45,0,none⟩) 1 1 [mv] rfl jl (by simp) (by unfold I64;omega) (fun m hm=>by simp at hm;rw [hm,hmv];exact ⟨rfl,rfl⟩)
 rw [show cw 2 j.acc tick (-1) 0 ([mv].map (·.m))=gbT j.acc tick j.hold (i:Int) n by rw [hmv];rfl] at hpost
 refine GPW.ef (Ef.a6 (hpost) rfl) ac ?_
 rintro _ _ ⟨rfl,rfl⟩
 repeat first|refine aa ?_|intro _|refine fT ?_
 refine ⟨i+1,ab,ab,?_,?_⟩
 ·rw [show ((i+1:Nat):Int)=(i:Int)+1 by omega]
  exact aj
 ·rw [hsu]
  exact ae
attribute [local irreducible] ba
abbrev zP:List Stp:=[.ev 0,.ev 1,.ev 2,.ev 3,.ev 4,.ev 5,.ev 6,.ev 7,.ev 8,.ev 9,.ev 10,.ev 11,.ev 12,.ev 13,.ev 14,.ev 15,.ev 16,.ev 17,.ev 18,.ev 19,.ev 20,.ev 21,.ev 22,.ev 23,.ev 24,.ev 25,.ev 26,.ev 27,.ev 28]
theorem cW {φ ψ:Prop} (k:ψ) (h:Hid ψ→φ:=by intro k;(with_reducible apply G.a7);first|refine G.a6 (N:=86) (id:=4) zP mixed ah (Hid.out k)):φ:=h ⟨k⟩
theorem uy {L:List HP} (yb lb:Nat) (Y:YardM) (hY:Y.Ok) (S:LedM) (hS:S.Ok) (hg:CatGood S.cat) (hc:S.cat.Ok) (acc job tick:Int) :
  Tri Tryz.prog 84 #[.pointer (some ⟨yb,0,none⟩),.int .i64 acc,.int .i64 job,.int .i64 tick] (cZ yb lb Y::aW lb S::L) (fun v L'=>v=.int .i64 (ba S Y acc job tick).1∧L' = cZ yb lb (ba S Y acc job tick).2.2::aW lb (ba S Y acc job tick).2.1::L):=by
 have hjl:=hY.len
 refine Tri.body (args:=[.pointer (some ⟨yb,0,none⟩),.int .i64 acc,.int .i64 job,.int .i64 tick]) 86 en84 Tryz.func84 rfl rfl rfl (by simp) ?_
 refine G.c6 (f:=ryA yb lb Y) ?_
 intro y
 simp only [ryA,ryL,List.cons_append,List.nil_append]
 have hyc:=ed (yb:=yb) (lb:=lb) (Y:=Y) (L:=aW lb S::L) y
 simp only [ryL] at hyc
 obtain ⟨M,hM⟩:∃ M,M=ba S Y acc job tick:=⟨_,rfl⟩
 rw [← hM]
 unfold ba at hM
 refine G.ent (L':=aW lb S::obj yb tRY (aT lb Y y)::isl (encZ .u8) 1 y.sad Y.seed::osl aq 10 tRJ y.jad y.jcap Y.jobs::L) ae ?_
 repeat first|refine aa ?_|intro _|refine cW ?_
 refine GO.ef (Ef.a6 (iQ yb lb Y y S hS acc tick) rfl) ac ?_
 rintro _ _ ⟨rfl,rfl⟩
 by_cases h1:aM acc∧aV Y.tick S.now tick
 case neg =>
  rw [if_pos h1] at hM
  rw [hM,an h1]
  repeat first|refine aa ?_|intro _|refine cW ?_
  exact KX.a6 ai (Ent.trans ae hyc) ⟨rfl,rfl⟩
 rw [aw h1]
 rw [if_neg (fun h=>h h1)] at hM
 by_cases h3:0≤job
 case neg =>
  rw [if_pos (fun h=>h3 h.1)] at hM
  rw [hM]
  repeat first|refine aa ?_|intro _|refine cW ?_
  exact KX.a6 ai (Ent.trans ae hyc) ⟨rfl,rfl⟩
 by_cases h4:job<Y.jobs.length
 case neg =>
  rw [if_pos (fun h=>h4 h.2.1)] at hM
  rw [hM]
  repeat first|refine aa ?_|intro _|refine cW ?_
  exact KX.a6 ai (Ent.trans ae hyc) ⟨rfl,rfl⟩
 have hmm:min (max job 0) ((Y.jobs.length:Int) - 1)=job:=ab
 cases h5:Y.jobs[job.toNat]!.done with
 | true =>
  rw [if_pos (fun h=>by have:=h.2.2;rw [h5] at this;cases this)] at hM
  rw [hM]
  repeat first|refine aa ?_|intro _|refine cW ?_
  rw [hmm,h5]
  repeat first|refine aa ?_|intro _|refine cW ?_
  exact KX.a6 ai (Ent.trans ae hyc) ⟨rfl,rfl⟩
 | false =>
 rw [if_neg (fun h=>h ⟨h3,h4,h5⟩)] at hM
 have hk:job.toNat<Y.jobs.length:=ab
 by_cases h6:Y.jobs[job.toNat]!.acc=acc
 case neg =>
  rw [if_pos h6] at hM
  rw [hM]
  repeat first|refine aa ?_|intro _|refine cW ?_
  rw [hmm,h5]
  repeat first|refine aa ?_|intro _|refine cW ?_
  exact KX.a6 ai (Ent.trans ae hyc) ⟨rfl,rfl⟩
 rw [if_neg (fun h=>h h6)] at hM
 by_cases h7:Y.jobs[job.toNat]!.fin≤tick
 case pos =>
  rw [if_pos h7] at hM
  rw [hM]
  repeat first|refine aa ?_|intro _|refine cW ?_
  rw [hmm,h5]
  repeat first|refine aa ?_|intro _|refine cW ?_
  exact KX.a6 ai (Ent.trans ae hyc) ⟨rfl,rfl⟩
 rw [if_neg h7] at hM
 rw [hM]
 repeat first|refine aa ?_|intro _|refine cW ?_
 rw [hmm,h5]
 repeat first|refine aa ?_|intro _|refine cW ?_
 refine GO.efu (Ef.f8 (enc:=aq) (finJ Y.jobs[job.toNat]!) rfl rfl rfl rfl hk ac) ?_
 rintro _ _ rfl
 obtain ⟨js,hjs⟩:∃ js,js=Y.jobs.set job.toNat (finJ Y.jobs[job.toNat]!):=⟨_,rfl⟩
 have hjsl:js.length=Y.jobs.length:=by rw [hjs,List.length_set]
 have hjk:js[job.toNat]! = finJ Y.jobs[job.toNat]!:=by rw [hjs,dj hk,if_pos rfl]
 rw [← hjs]
 repeat first|refine aa ?_|intro _|refine cW ?_
 rw [hjk]
 refine GO.ent (L':=aW lb S::obj yb tRY (aT lb { Y with tick:=tick } y)::isl (encZ .u8) 1 y.sad Y.seed::osl aq 10 tRJ y.jad y.jcap js::L) ae ?_
 refine GO.ef (Ef.a6 (qB yb lb { Y with tick:=tick } y S hS hg hc (finJ Y.jobs[job.toNat]!) tick) rfl) ac ?_
 rintro _ _ rfl
 repeat first|refine aa ?_|intro _|refine cW ?_
 refine KX.a6 ai ?_ ⟨rfl,rfl⟩
 dsimp only
 rw [show (finJ Y.jobs[job.toNat]!).acc=acc from h6,show (finJ Y.jobs[job.toNat]!).hold=Y.jobs[job.toNat]!.hold from rfl]
 refine Ent.trans ?_ (ed (yb:=yb) (lb:=lb) (Y:=finY { Y with tick:=tick } job.toNat) (L:=aW lb (gbM acc tick Y.jobs[job.toNat]!.hold S S.cat.items.length)::L) y)
 simp only [ryL,aT,finY]
 rw [← hjs,hjsl]
 exact ae
end
end Go.Proofs.YtfmgkkofledkbaaGreatDoor
