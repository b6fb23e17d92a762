/- Lemmas. -/
import Derived.Defers
import Derived.Recover
import Derived.Test.YtlgpgjdggilkgaaGreatDoorEcat
import Derived.ChangeKeysEq
set_option linter.all false
namespace Go.V
section
section
variable {P:Program}{N:Nat}{env:Env}{L:LH}{K:Post}{ty:TypeId}
def Enters.go{f:FuncId}(h:Enters P f)(args:Array Value)(w:World):(callFunc f args).run P w=.ok (.enter f args) w:=h args w
def EndR(θ:Th)(R:LH)(pr:Value→LH→Prop)(pp:List PanicEntry→LH→Prop):Ending→World→Prop
 | .returned v,w=>∃L',pr v L'∧Sat θ (L'++R) w
 | .panicked ch,w=>∃L',pp ch L'∧Sat θ (L'++R) w
 | .outgrown,_=>False
structure TriE (P:Program) (f:FuncId) (args:Array Value) (L:LH) (pr:Value→LH→Prop) (pp:List PanicEntry→LH→Prop):Prop where
 enters:Enters P f
 calls:∀θ R w,Sat θ (L++R) w→Calls P f args w (EndR θ R pr pp)
def TriE.mono{f:FuncId}{args:Array Value}{pr a1 : Value→LH→Prop}{pp a0 : List PanicEntry→LH→Prop}(h:TriE P f args L pr pp)(h1:∀v L,pr v L→a1 v L)(h2:∀v L,pp v L→a0 v L):TriE P f args L a1 a0 :=
 ⟨h.enters,fun θ R w s=>(h.calls θ R w s).mono fun e w' he=>by
  cases e with
  | returned v=>obtain⟨L',a,b⟩:=he;exact⟨L',h1 _ _ a,b⟩
  | panicked v=>obtain⟨L',a,b⟩:=he;exact⟨L',h2 _ _ a,b⟩
  | outgrown=>exact he⟩
def TriE.pre{f:FuncId}{args:Array Value}{L' : LH}{pr:Value→LH→Prop}{pp:List PanicEntry→LH→Prop}(h:TriE P f args L' pr pp)(hl:Ent L L'):TriE P f args L pr pp :=
 ⟨h.enters,fun θ R w s=>h.calls θ R w (hl θ R w s)⟩
def Kq(P:Program)(N:Nat)(rs:List ResultVar)(pr:Value→LH→Prop)(pp:List PanicEntry→LH→Prop):Post:=fun e env L=>match e with
 | .ret | .normal=>∀θ R w,Sat θ (L++R) w→∃vs L',ResOk P N env L rs vs∧Sat θ (L'++R) w∧pr (resV vs) L'
 | .panic ch=>∃L',Ent L L'∧pp ch L'
 | _=>False
def lZ{fn:Func}{tmps:Array Value}{R:Ending→World→Prop}{θ:Th}{Y:LH}{u:FrameMode}(hu:u≠.run):∀(M:List Nat) (w:World),Sat θ (mkH M++Y) w→(∀w',Sat θ Y w'→LeavesIn Fence.wide 0 P fn tmps R [] u w')→LeavesInM Fence.wide 0 P fn tmps R (mkD M) u w
 | [],w,s,h=>h w s
 | D::M,w,s,h=>by
  have s0:Sat θ (own D (.deferred (some []))::(mkH M++Y)) w:=s;have hb:=s0.own_heap;refine⟨hu,.inl ⟨D,{ w with heap:=w.heap.setIfInBounds D (.deferred none) },rfl,?_,?_⟩⟩
  ·simp[Instr.takeDeferred,getObj,setObj,Sem.run,hb,bind,Sem.bind,pure]
  ·have a0:D<w.heap.size:=(Array.getElem?_eq_some_iff.1 hb).1
   have s1:Sat θ (own D (.deferred none)::(mkH M++Y)) { w with heap:=w.heap.setIfInBounds D (.deferred none) }:=by
    refine s0.update ⟨s.1.tape,s.1.os,s.1.output,s.1.drawn⟩ (by simp[a0]) ?_;intro k x hk hx;simp only[Array.getElem?_setIfInBounds];rw[if_neg (fun e=>hk e.symm)];exact hx
   exact lZ hu M _ s1.tail h
def EnvOk.c7{fn:Func}{args:LV}(hN:fn.ntmps=N)(a1 : args.length≤N):EnvOk N (env0 args 0) { tmps:=args.toArray++Array.replicate (fn.ntmps - args.toArray.size) undef,defers:=[] }:=by
 refine⟨by simp[hN];omega,?_⟩;intro t v ht;rw[rI] at ht;simp at ht;have a0:t<args.length:=(List.getElem?_eq_some_iff.1 ht).1;rw[Array.getElem?_append_left (by simpa using a0)];simpa using ht
def TriE.body{f:FuncId}{fn:Func}{c:Code}{args:LV}{pr:Value→LH→Prop}{pp:List PanicEntry→LH→Prop}{rs:List ResultVar}(N:Nat)
  (he:Enters P f) (hf:P.funcs[f]? = some fn) (hb:fn.body=some c) (hr:fn.results=rs.toArray) (hN:fn.ntmps=N) (a6 : args.length≤N)
  (h:G P N c (env0 args 0) L (Kq P N rs pr pp)):TriE P f args.toArray L pr pp:=by
 refine⟨he,fun θ R w s=>(callsIn_wide (n:=0)).1 (callsIn_of_wp_marks hf hb trivial ?_)⟩;refine wpIn_mono (h none θ R _ w (fun l hl=>by cases hl) ⟨[],EnvOk.c7 hN a6,rfl,s⟩) ?_;rintro e a' w' ⟨a3,L',⟨M,a5,hm,s'⟩,hex⟩
 have s1:Sat θ (mkH M++(L'++R)) w':=s'.perm (by
  rw[←aB,←aB];exact List.perm_append_comm.append_right R)
 have a2:(∀θ R w,Sat θ (L'++R) w→∃vs L'',ResOk P N a3 L' rs vs∧Sat θ (L''++R) w∧pr (resV vs) L'')→LeavesInM Fence.wide 0 P fn a'.tmps (EndR θ R pr pp) a'.defers .returning w':=by
  intro a4;rw[hm];refine lZ cc M w' s1 fun w₂ s₂=>?_;obtain⟨vs,L'',a7,a1,a0⟩:=a4 θ R w₂ s₂;exact⟨_,ti (P:=P) a5 s₂ hr a7,L'',a0,a1⟩
 cases e with
 | ret=>exact a2 hex
 | normal=>exact a2 hex
 | panic ch =>
  obtain⟨L'',a1,a0⟩:=hex;show LeavesInM Fence.wide 0 P fn a'.tmps (EndR θ R pr pp) a'.defers (.panicking ch) w';rw[hm];refine lZ cc M w' s1 fun w₂ s₂=>?_;exact⟨L'',a0,a1 θ R w₂ s₂⟩
 | exit id=>exact hex.elim
 | goto l=>exact hex.elim
 | outgrown=>exact hex.elim
def GO.panic{a1:Array Oper}{rest:List Oper}{x:Operand}{t:TypeId}{v:Value}{pos:String}{af:Array Edge}(hx:evE env x=some (.iface t v))(h:K (.panic [{ v:=.iface t v,recovered:=false }]) env L):GO P N a1 (⟨none,.panic x,ty,pos,af,none⟩::rest) env L K:=by
 intro r θ Y a w hr i;refine wpListIn_plain rfl fun K' hK=>mf (fun c hc=>by cases hc) ?_
 have a0:(execOp a.eval ⟨none,.panic x,ty,pos,af,none⟩).run P w=.halt (.panic (.iface t v)) w:=by
  simp[execOp,aL i.agr hx,Instr.panic,goPanic]
 rw[Oper.wp,a0,Oper.upon_panic];exact⟨env,L,i,h⟩
structure AtD (N:Nat) (env:Env) (L:LH) (θ:Th) (R:LH) (D:List Deferred) (a:Act) (w:World):Prop where
 eok:EnvOk N env a
 def_:a.defers=D
 sat:Sat θ (L++R) w
def AtD.ent{θ:Th}{R:LH}{D:List Deferred}{a:Act}{w:World}{L' : LH}(h:AtD N env L θ R D a w)(hl:Ent L L'):AtD N env L' θ R D a w:=⟨h.eok,h.def_,hl θ R w h.sat⟩
end
end
section
section
variable {P:Program}{L:LH}{env:Env}{ty:TypeId}
def Ev.z7{t yt:TypeId}{x y:Operand}{k:IntKind}{a:Int}(hx:evE env x=some (ac a))(hy:evE env y=some (.int k 32)):Ev P L env (.binOp .shr t x y yt) ty (ac (a / 4294967296)):=by
 have h:=Ev.shr (P:=P) (L:=L) (ty:=ty) (t:=t) (yt:=yt) hx hy ae
 have e:a.fdiv (2 ^ min (32:Int).toNat IntKind.i64.bits)=a / 4294967296:=by
  rw[show(2:Int) ^ min (32:Int).toNat IntKind.i64.bits=4294967296 by decide];exact dG a ae
 rw[e] at h;exact h
def Ev.z8{t yt:TypeId}{x y:Operand}{k:IntKind}{a:Int}(hx:evE env x=some (ac a))(hy:evE env y=some (.int k 32))(h0 : -2147483648≤a)(h1:a≤2147483647):Ev P L env (.binOp .shl t x y yt) ty (ac (a*4294967296)):=by
 have h:=Ev.shl (P:=P) (L:=L) (ty:=ty) (t:=t) (yt:=yt) hx hy ae
 have e:IntKind.i64.wrap (a*2 ^ min (32:Int).toNat IntKind.i64.bits)=a*4294967296:=by
  rw[show(2:Int) ^ min (32:Int).toNat IntKind.i64.bits=4294967296 by decide];exact wrap_i64 ab ab
 rw[e] at h;exact h
end
end
end Go.V
namespace Go.Proofs.YtlgpgjdggilkgaaGreatDoor
section
open Go.V
attribute [local irreducible] G GO GP GPW GPK Ev Ef EfR Ent CB GB V.Enters
def cz(fl:List FlM):LL:=(fl.filter (fun f=>decide (f.kind=5))).flatMap (·.parts)
def fT(fl:List FlM):LL:=(fl.filter (fun f=>decide (f.kind=9∧f.frm=0))).flatMap (·.parts)
def impG(sh:Int):LL→LL→Int
 | [],_=>0
 | p::ps,l=>if p.1 / 4294967296=sh∨11<p.1 / 4294967296 then 1 else if ∃y∈ofF l p.1,ovP p y then 8 else impG sh ps (l++[p])
def GU(l:LL)(p:Lot)(f:Int):ofF (l++[p]) f=if p.1=f then ofF l f++[p] else ofF l f:=by
 unfold ofF;rw[cI];by_cases e:p.1=f
 ·rw[if_pos e,cB (by simpa using e)];rfl
 ·rw[if_neg e,dD (by simpa using e),List.filter_nil,aH]
def vn{sh:Int}{p:Lot}{ps l:LL}:impG sh (p::ps) l=if p.1 / 4294967296=sh∨11<p.1 / 4294967296 then 1 else if ∃y∈ofF l p.1,ovP p y then 8 else impG sh ps (l++[p]):=rfl
end
section
open Go.V
def FlA(fl:List FlM):Prop:=∀f∈fl,(∀x∈f.parts,LotOk x)∧((f.kind=5∨(f.kind=9∧f.frm=0))→Apart f.parts)
def impAll_mem{fl:List FlM}{y:Lot}:y∈cz fl↔∃f∈fl,f.kind=5∧y∈f.parts:=by
 unfold cz;rw[List.mem_flatMap];constructor
 ·rintro⟨f,hf,hy⟩;obtain⟨h1,h2⟩:=List.mem_filter.1 hf;exact⟨f,h1,of_decide_eq_true h2,hy⟩
 ·rintro⟨f,hf,hk,hy⟩;exact⟨f,List.mem_filter.2 ⟨hf,decide_eq_true hk⟩,hy⟩
def retAll_mem{fl:List FlM}{y:Lot}:y∈fT fl↔∃f∈fl,(f.kind=9∧f.frm=0)∧y∈f.parts:=by
 unfold fT;rw[List.mem_flatMap];constructor
 ·rintro⟨f,hf,hy⟩;obtain⟨h1,h2⟩:=List.mem_filter.1 hf;exact⟨f,h1,of_decide_eq_true h2,hy⟩
 ·rintro⟨f,hf,hk,hy⟩;exact⟨f,List.mem_filter.2 ⟨hf,decide_eq_true hk⟩,hy⟩
def Fu{fl:List FlM}(h:FlA fl):∀y∈cz fl,LotOk y:=fun y hy=>by
 obtain⟨f,hf,_,hy⟩:=impAll_mem.1 hy;exact(h f hf).1 y hy
def EH{fl:List FlM}(h:FlA fl):∀y∈fT fl,LotOk y:=fun y hy=>by
 obtain⟨f,hf,_,hy⟩:=retAll_mem.1 hy;exact(h f hf).1 y hy
def Gd{fl:List FlM}(h:FlA fl){p:Lot}(hp:LotOk p):po fl p↔∃y∈ofF (cz fl) p.1,ovP p y:=by
 unfold po;constructor
 ·rintro⟨f,hf,hk,hm⟩;obtain⟨y,hy,h1,h2⟩:=(oW (h f hf).1 ((h f hf).2 (.inl hk)) hp).1 hm;exact⟨y,ofF_mem.2 ⟨impAll_mem.2 ⟨f,hf,hk,hy⟩,h1⟩,h2⟩
 ·rintro⟨y,hy,h2⟩;obtain⟨hy,h1⟩:=ofF_mem.1 hy;obtain⟨f,hf,hk,hy⟩:=impAll_mem.1 hy;exact⟨f,hf,hk,(oW (h f hf).1 ((h f hf).2 (.inl hk)) hp).2 ⟨y,hy,h1,h2⟩⟩
def yf{sh:Int}{fl:List FlM}(h:FlA fl):∀(ps dn:LL),(∀p∈ps,LotOk p)→Apart ps→(∀d∈dn,∀p∈ps,apart d p)→impG sh ps (cz fl++dn)=arrG sh fl ps
 | [],_,_,_,_=>rfl
 | p::ps,dn,h1,h2,h3=>by
  obtain⟨a1,a2⟩:=List.pairwise_cons.1 h2;have hp:=h1 p av
  have ih:=yf (sh:=sh) h ps (dn++[p]) (fun q hq=>h1 q (au _ hq)) a2 (fun d hd q hq=>by
   rcases List.mem_append.1 hd with hd|hd
   ·exact h3 d hd q (au _ hq)
   ·rw[List.mem_singleton.1 hd];exact a1 q hq)
  have e:(∃y∈ofF (cz fl++dn) p.1,ovP p y)↔po fl p:=by
   rw[Gd h hp];constructor
   ·rintro⟨y,hy,h4⟩;obtain⟨hy,h5⟩:=ofF_mem.1 hy;rcases List.mem_append.1 hy with hy|hy
    ·exact⟨y,ofF_mem.2 ⟨hy,h5⟩,h4⟩
    ·have:=h3 y hy p av
     unfold apart at this;unfold ovP at h4;omega
   ·rintro⟨y,hy,h4⟩;obtain⟨hy,h5⟩:=ofF_mem.1 hy;exact⟨y,ofF_mem.2 ⟨bM _ hy,h5⟩,h4⟩
  rw[vn];show _=if arr1 sh fl p=0 then arrG sh fl ps else arr1 sh fl p;unfold arr1;by_cases c1:p.1 / 4294967296=sh∨11<p.1 / 4294967296
  ·rw[if_pos c1,if_pos c1,if_neg ae]
  ·rw[if_neg c1,if_neg c1];by_cases c2:po fl p
   ·rw[if_pos (e.2 c2),if_pos c2,if_neg ae]
   ·rw[if_neg (fun q=>c2 (e.1 q)),if_neg c2,if_pos rfl,aB];exact ih
def IQ{sh:Int}{fl:List FlM}(h:FlA fl){ps:LL}(h1:∀p∈ps,LotOk p)(h2:Apart ps):impG sh ps (cz fl)=arrG sh fl ps:=by
 have:=yf (sh:=sh) h ps [] h1 h2 (fun d hd=>absurd hd ay)
 rwa [aH] at this
end
section
open Go.V
attribute [local irreducible] G GO GP GPW GPK Ev Ef EfR Ent CB GB V.Enters
def gotB(sh:Int)(fl:List FlM)(item:Int)(p:Lot):Prop:=(0≤p.1 - sh*4294967296∧p.1 - sh*4294967296<fl.length)∧fl[(p.1 - sh*4294967296).toNat]!.to=0∧fl[(p.1 - sh*4294967296).toNat]!.kind≠6∧fl[(p.1 - sh*4294967296).toNat]!.item=item∧p.2.1+p.2.2≤fl[(p.1 - sh*4294967296).toNat]!.n
instance (sh:Int)(fl:List FlM)(item:Int)(p:Lot):Decidable (gotB sh fl item p):=by unfold gotB;infer_instance
def retG(sh:Int)(fl:List FlM)(item:Int):LL→LL→Int
 | [],_=>0
 | p::ps,l=>if gotB sh fl item p∧¬ ∃y∈ofF l p.1,ovP p y then retG sh fl item ps (l++[p]) else 10
def nr{sh:Int}{fl:List FlM}{item:Int}{p:Lot}{ps l:LL}:retG sh fl item (p::ps) l=if gotB sh fl item p∧¬ ∃y∈ofF l p.1,ovP p y then retG sh fl item ps (l++[p]) else 10:=rfl
end
section
open Go.V
def FlN(sh:Int)(fl:List FlM):Prop:=∀k,k<fl.length→fl[k]!.id=sh*4294967296+k∧1≤fl[k]!.n∧fl[k]!.n≤1099511627776
def Bd{p:Lot}{id n:Int}(hp:LotOk p)(hi:0≤id)(h1:1≤n)(h2:n≤1099511627776):ic [p] [(id,0,n)]↔p.1=id∧p.2.1+p.2.2≤n:=by
 have hx:LotOk (id,0,n):=⟨hi,bq _,by dsimp only;omega,h1,by dsimp only;omega⟩;have one:∀y:Lot,Apart [y]:=fun y=>bB _ _;rw[oy (Er hp) (one p) (Er hx) (one _),gr,iM];show p.2.2+0 - ((ov p (id,0,n)+0)+0)=0↔_;unfold LotOk at hp;unfold ov;dsimp only;by_cases e:p.1=id
 ·rw[if_pos e];omega
 ·rw[if_neg e];omega
def Gf{sh:Int}{fl:List FlM}(a0:0≤sh)(h:FlA fl)(hn:FlN sh fl)(item:Int){p:Lot}(hp:LotOk p):px fl item p↔gotB sh fl item p∧¬ ∃y∈ofF (fT fl) p.1,ovP p y:=by
 have a1:0≤sh*4294967296:=Int.mul_nonneg a0 ae
 have hA:(∃f∈fl,f.kind=9∧f.frm=0∧ny f.parts [p]≠[])↔∃y∈ofF (fT fl) p.1,ovP p y:=by
  constructor
  ·rintro⟨f,hf,hk,hz,hm⟩;obtain⟨y,hy,h1,h2⟩:=(oW (h f hf).1 ((h f hf).2 (.inr ⟨hk,hz⟩)) hp).1 hm;exact⟨y,ofF_mem.2 ⟨retAll_mem.2 ⟨f,hf,⟨hk,hz⟩,hy⟩,h1⟩,h2⟩
  ·rintro⟨y,hy,h2⟩;obtain⟨hy,h1⟩:=ofF_mem.1 hy;obtain⟨f,hf,hk,hy⟩:=retAll_mem.1 hy;exact⟨f,hf,hk.1,hk.2,(oW (h f hf).1 ((h f hf).2 (.inr hk)) hp).2 ⟨y,hy,h1,h2⟩⟩
 have hB:(∃f∈fl,f.kind≠6∧f.to=0∧f.item=item∧ic [p] [(f.id,0,f.n)])↔gotB sh fl item p:=by
  constructor
  ·rintro⟨f,hf,h1,h2,h3,h4⟩;obtain⟨k,hk,rfl⟩:=List.mem_iff_getElem.1 hf;obtain⟨g1,g2,g3⟩:=hn k hk;rw[getElem!_of hk] at g1 g2 g3;obtain⟨g4,g5⟩:=(Bd hp ab g2 g3).1 h4;have e:(p.1 - sh*4294967296).toNat=k:=ab;unfold gotB;rw[e,getElem!_of hk];exact⟨⟨ab,ab⟩,h2,h1,h3,g5⟩
  ·rintro⟨⟨h1,h2⟩,h3,h4,h5,h6⟩;have hk:(p.1 - sh*4294967296).toNat<fl.length:=ab;obtain⟨g1,g2,g3⟩:=hn _ hk;exact⟨_,aV hk,h4,h3,h5,(Bd hp ab g2 g3).2 ⟨ab,h6⟩⟩
 unfold px;rw[hA,hB];exact And.comm
def wX{sh:Int}{fl:List FlM}(a0:0≤sh)(h:FlA fl)(hn:FlN sh fl)(item:Int):∀(ps dn:LL),(∀p∈ps,LotOk p)→Apart ps→(∀d∈dn,∀p∈ps,apart d p)→retG sh fl item ps (fT fl++dn)=revG fl item ps
 | [],_,_,_,_=>by
  unfold revG;rw[if_pos (fun p hp=>absurd hp ay)];rfl
 | p::ps,dn,h1,h2,h3=>by
  obtain⟨a1,a2⟩:=List.pairwise_cons.1 h2;have hp:=h1 p av
  have ih:=wX a0 h hn item ps (dn++[p]) (fun q hq=>h1 q (au _ hq)) a2 (fun d hd q hq=>by
   rcases List.mem_append.1 hd with hd|hd
   ·exact h3 d hd q (au _ hq)
   ·rw[List.mem_singleton.1 hd];exact a1 q hq)
  have e:(∃y∈ofF (fT fl++dn) p.1,ovP p y)↔∃y∈ofF (fT fl) p.1,ovP p y:=by
   constructor
   ·rintro⟨y,hy,h4⟩;obtain⟨hy,h5⟩:=ofF_mem.1 hy;rcases List.mem_append.1 hy with hy|hy
    ·exact⟨y,ofF_mem.2 ⟨hy,h5⟩,h4⟩
    ·have:=h3 y hy p av
     unfold apart at this;unfold ovP at h4;omega
   ·rintro⟨y,hy,h4⟩;obtain⟨hy,h5⟩:=ofF_mem.1 hy;exact⟨y,ofF_mem.2 ⟨bM _ hy,h5⟩,h4⟩
  have hb:=Gf a0 h hn item hp;rw[←e] at hb;rw[nr,aB,ih];unfold revG;by_cases c:px fl item p
  ·rw[if_pos (hb.1 c)];by_cases c2:∀q∈ps,px fl item q
   ·rw[if_pos c2,if_pos (fun q hq=>by
     rcases List.mem_cons.1 hq with rfl|hq
     ·exact c
     ·exact c2 q hq)]
   ·rw[if_neg c2,if_neg (fun q=>c2 (fun r hr=>q r (au _ hr)))]
  ·rw[if_neg (fun q=>c (hb.2 q)),if_neg (fun q=>c (q p av))]
def Iq{sh:Int}{fl:List FlM}(a0:0≤sh)(h:FlA fl)(hn:FlN sh fl)(item:Int){ps:LL}(h1:∀p∈ps,LotOk p)(h2:Apart ps):retG sh fl item ps (fT fl)=revG fl item ps:=by
 have:=wX a0 h hn item ps [] h1 h2 (fun d hd=>absurd hd ay)
 rwa [aH] at this
end
section
open Go.V
attribute [local irreducible] G GO GP GPW GPK Ev Ef EfR Ent CB GB V.Enters
def pj(k:Int)(m:MvM):Prop :=
 if k=0 then m.frm=0∧m.parts.length=0 else if k=1∨k=6 then m.to=0∧m.parts.length=0 else if k=2∨k=3∨k=8 then m.frm≠0∧m.to≠0∧m.parts.length=0
 else if k=5 then m.frm=0∧iT m.parts m.n else if k=7 then m.frm≠0∧iT m.parts m.n else if k=9 then m.to≠0∧iT m.parts m.n else m.parts.length=0
def FX{p q:Prop}[Decidable p][Decidable q](h:p↔q):dB p=dB q:=by
 by_cases c:p
 ·rw[bE c,bE (h.1 c)]
 ·rw[aW c,aW (fun x=>c (h.2 x))]
instance (s:StM):Decidable (ka s):=by unfold ka;infer_instance
def mvAP(k:Nat)(kind:Int)(m:MvM):Prop:=(0≤m.item∧m.item<k)∧(1≤m.n∧m.n≤1099511627776)∧accP m.frm∧accP m.to∧m.frm≠m.to∧pj kind m
def oV{k:Nat}{kind:Int}{m:MvM}(h:0≤kind∧kind≤10):mvAP k kind m↔Dx k (iJ kind) m∧(kind≠4→kind≠10→jk kind m):=by
 have e:iJ kind=true↔kind=5∨kind=7∨kind=9:=by unfold iJ;rw[dK,decide_eq_true_iff]
 have hp:=@partsA_iff m.parts m.n;unfold mvAP Dx rh accP;by_cases h5:kind=5
 ·subst h5;rw[if_pos (e.2 (.inl rfl)),←hp,show jk 5 m↔m.frm=0 from Iff.rfl,show pj 5 m↔m.frm=0∧iT m.parts m.n from Iff.rfl];constructor
  ·rintro⟨a,b,c,d,f,g1,g2⟩;exact⟨⟨⟨a,b,f,ab⟩,g2⟩,fun _ _=>g1⟩
  ·rintro⟨⟨⟨a,b,f,c⟩,g2⟩,g1⟩;exact⟨a,b,ab,ab,f,g1 ae ae,g2⟩
 by_cases h7:kind=7
 ·subst h7;rw[if_pos (e.2 (.inr (.inl rfl))),←hp,show jk 7 m↔0<m.frm from Iff.rfl,show pj 7 m↔m.frm≠0∧iT m.parts m.n from Iff.rfl];constructor
  ·rintro⟨a,b,c,d,f,g1,g2⟩;exact⟨⟨⟨a,b,f,ab⟩,g2⟩,fun _ _=>by omega⟩
  ·rintro⟨⟨⟨a,b,f,c⟩,g2⟩,g1⟩;have:=g1 ae ae
   exact⟨a,b,ab,ab,f,ab,g2⟩
 by_cases h9:kind=9
 ·subst h9;rw[if_pos (e.2 (.inr (.inr rfl))),←hp,show jk 9 m↔0<m.to from Iff.rfl,show pj 9 m↔m.to≠0∧iT m.parts m.n from Iff.rfl];constructor
  ·rintro⟨a,b,c,d,f,g1,g2⟩;exact⟨⟨⟨a,b,f,ab⟩,g2⟩,fun _ _=>by omega⟩
  ·rintro⟨⟨⟨a,b,f,c⟩,g2⟩,g1⟩;have:=g1 ae ae
   exact⟨a,b,ab,ab,f,ab,g2⟩
 rw[if_neg (fun q=>by rcases e.1 q with q|q|q<;>omega)];unfold jk pj;by_cases h0:kind=0
 ·rw[if_pos h0,if_pos (.inl h0)];constructor
  ·rintro⟨a,b,c,d,f,g1,g2⟩;exact⟨⟨⟨a,b,f,ab⟩,g2⟩,fun _ _=>g1⟩
  ·rintro⟨⟨⟨a,b,f,c⟩,g2⟩,g1⟩;exact⟨a,b,ab,ab,f,g1 ab ab,g2⟩
 rw[if_neg h0,if_neg (show ¬(kind=0∨kind=5) from fun q=>q.elim h0 h5)];by_cases h1:kind=1∨kind=6
 ·rw[if_pos h1,if_pos h1];constructor
  ·rintro⟨a,b,c,d,f,g1,g2⟩;exact⟨⟨⟨a,b,f,ab⟩,g2⟩,fun _ _=>g1⟩
  ·rintro⟨⟨⟨a,b,f,c⟩,g2⟩,g1⟩;exact⟨a,b,ab,ab,f,g1 ab ab,g2⟩
 simp only[if_neg h1,if_neg h7,if_neg h9,if_neg h5];by_cases h2:kind=2∨kind=3∨kind=8
 ·rw[if_pos h2];constructor
  ·rintro⟨a,b,c,d,f,g1,g3,g2⟩;exact⟨⟨⟨a,b,f,ab⟩,g2⟩,fun _ _=>by omega⟩
  ·rintro⟨⟨⟨a,b,f,c⟩,g2⟩,g1⟩;have:=g1 ab ab
   exact⟨a,b,ab,ab,f,ab,ab,g2⟩
 rw[if_neg h2];constructor
 ·rintro⟨a,b,c,d,f,g2⟩;exact⟨⟨⟨a,b,f,ab⟩,g2⟩,fun _ _=>by omega⟩
 ·rintro⟨⟨⟨a,b,f,c⟩,g2⟩,g1⟩;exact⟨a,b,ab,ab,f,g2⟩
def jE(rules:List RuM)(s:StM):Prop:=if s.kind=4 then jv rules s.rule s.times s.moves else if s.kind=10 then ka s else s.rule = -1∧s.times=0
def possG_A{c:CatM}{now:Int}{s:StM}:gY c now s↔(0≤s.kind∧s.kind≤10)∧accP s.actor∧(now≤s.tick∧s.tick≤1099511627776)∧(1≤s.moves.length∧s.moves.length≤64)∧(∀m∈s.moves,mvAP c.items.length s.kind m)∧jE c.rules s:=by
 unfold gY pJ jE;constructor
 ·rintro⟨h1,h2,h3,h4,h5,h6⟩;refine⟨h1,h2,h3,h4,fun m hm=>(oV h1).2 ⟨h5 m hm,fun g4 a0=>?_⟩,?_⟩
  ·rw[if_neg g4,if_neg a0] at h6;exact h6.1 m hm
  ·by_cases g4:s.kind=4
   ·rw[if_pos g4] at h6 ⊢;exact h6
   ·rw[if_neg g4] at h6 ⊢;by_cases a0:s.kind=10
    ·rw[if_pos a0] at h6 ⊢;exact h6
    ·rw[if_neg a0] at h6 ⊢;exact h6.2
 ·rintro⟨h1,h2,h3,h4,h5,h6⟩;refine⟨h1,h2,h3,h4,fun m hm=>((oV h1).1 (h5 m hm)).1,?_⟩;by_cases g4:s.kind=4
  ·rw[if_pos g4] at h6 ⊢;exact h6
  ·rw[if_neg g4] at h6 ⊢;by_cases a0:s.kind=10
   ·rw[if_pos a0] at h6 ⊢;exact h6
   ·rw[if_neg a0] at h6 ⊢;exact⟨fun m hm=>((oV h1).1 (h5 m hm)).2 g4 a0,h6⟩
end
section
open Go.V
structure MvA (kind:Int) (m:MvM):Prop where
 g:MvG m
 imp:kind=5→m.frm=0
 st:kind=5∨kind=7∨kind=9→iT m.parts m.n
def EV{m:MvM}{kind:Int}{k:Nat}(hk:0≤kind∧kind≤10)(h:mvAP k kind m):MvA kind m:=by
 obtain⟨h1,h2⟩:=(oV hk).1 h;obtain⟨h3,h4⟩:=h1;have e:iJ kind=true↔kind=5∨kind=7∨kind=9:=by unfold iJ;rw[dK,decide_eq_true_iff]
 refine⟨⟨h3.2.1,h3.2.2.1,?_⟩,fun h5=>?_,fun hs=>?_⟩
 ·split at h4
  ·exact .inr h4
  ·exact .inl (aZ h4)
 ·have:=h2 ab ab
  unfold jk at this;rwa [if_pos (.inr h5)] at this
 ·rw[if_pos (e.2 hs)] at h4;exact partsA_iff.2 h4
def rA(fl:List FlM)(f:FlM):cz (fl++[f])=cz fl++(if f.kind=5 then f.parts else[]):=by
 unfold cz;rw[cI,cl];by_cases h:f.kind=5
 ·rw[if_pos h,cB (by simpa using h)];simp
 ·rw[if_neg h,dD (by simpa using h)];simp
def rr(fl:List FlM)(f:FlM):fT (fl++[f])=fT fl++(if f.kind=9∧f.frm=0 then f.parts else[]):=by
 unfold fT;rw[cI,cl];by_cases h:f.kind=9∧f.frm=0
 ·rw[if_pos h,cB (by simpa using h)];simp
 ·rw[if_neg h,dD (by simpa using h)];simp
structure WkA (sh:Int) (fl:List FlM) (k:Nat) (W:Wk):Prop where
 g:WkG sh fl k W
 fa:FlA (fl++W.flows)
 fn:FlN sh (fl++W.flows)
 il:(cz (fl++W.flows)).length≤k
 rl:(fT (fl++W.flows)).length≤k
def qu{mix:Int→Bool}{s:StM}{W:Wk}{m:MvM}(hm:MvA s.kind m)(h:s.kind=5∨(s.kind=9∧m.frm=0)):gPts mix s W m=m.parts:=by
 have h0:m.frm=0:=by
  rcases h with h|h
  ·exact hm.imp h
  ·exact h.2
 unfold gPts;rw[if_pos h0,if_pos ab]
def BO{sh:Int}{fl:List FlM}{mix:Int→Bool}{s:StM}{W:Wk}{k:Nat}{m:MvM}(a2:0≤sh)(h:WkA sh fl k W)(hm:MvA s.kind m)(hk:k+m.parts.length≤2000)(he:(db sh fl mix s W m).1=0):WkA sh fl (k+m.parts.length+1) (db sh fl mix s W m).2:=by
 obtain⟨g1,g2⟩:=sx a2 h.g hm.g hk he
 have a0:gErr sh (fl++W.flows) s W m=0:=by
  unfold db at he;by_cases h1:gErr sh (fl++W.flows) s W m≠0
  ·rw[if_pos h1] at he;exact absurd he h1
  ·exact Classical.not_not.1 h1
 obtain⟨p1,_⟩:=FB (mix:=mix) h.g hm.g hk a0;have il:=h.il;have rl:=h.rl;refine⟨g1,?_,?_,?_,?_⟩
 ·rw[g2,←aB];intro f hf;rcases List.mem_append.1 hf with hf|hf
  ·exact h.fa f hf
  ·rw[List.mem_singleton.1 hf];refine⟨p1,fun hq=>?_⟩;show Apart (gPts mix s W m);rw[qu hm hq];exact(hm.st (by rcases hq with hq|hq;exact .inl hq;exact .inr (.inr hq.1))).2.1
 ·rw[g2,←aB];intro j hj;rw[aj,aI] at hj;by_cases a1:j<(fl++W.flows).length
  ·have:=h.fn j a1
   rw[getElem!_of a1] at this;rw[getElem!_of (by rw[aj,aI];omega),dw a1];exact this
  ·obtain rfl:j=(fl++W.flows).length:=ab;rw[getElem!_of (by simp only[aj,aI];omega),cM (aq _)];simp only[Nat.sub_self,List.getElem_cons_zero];refine⟨?_,hm.g.n⟩;show eU sh fl.length W=_;unfold eU;rw[aj];omega
 ·rw[g2,←aB,rA,aj]
  have e:(if(fE sh fl.length mix s W m).kind=5 then(fE sh fl.length mix s W m).parts else[]).length≤m.parts.length:=by
   split
   ·rename_i hq;show(gPts mix s W m).length≤_;rw[qu hm (.inl hq)];exact aq _
   ·exact aw _
  omega
 ·rw[g2,←aB,rr,aj]
  have e:(if(fE sh fl.length mix s W m).kind=9∧(fE sh fl.length mix s W m).frm=0 then(fE sh fl.length mix s W m).parts else[]).length≤m.parts.length:=by
   split
   ·rename_i hq;show(gPts mix s W m).length≤_;rw[qu hm (.inr hq)];exact aq _
   ·exact aw _
  omega
def fU(a i:Int):List MvM→Nat
 | []=>0
 | m::ms=>((if m.to=a∧m.item=i then 1 else 0)+(if m.frm=a∧m.item=i then m.parts.length else 0))+fU a i ms
def pD(a i:Int):∀x y:List MvM,fU a i (x++y)=fU a i x+fU a i y
 | [],y=>by show fU a i y=0+fU a i y;omega
 | m::x,y=>by
  have:=pD a i x y
  show((if m.to=a∧m.item=i then 1 else 0)+(if m.frm=a∧m.item=i then m.parts.length else 0))+fU a i (x++y)=((if m.to=a∧m.item=i then 1 else 0)+(if m.frm=a∧m.item=i then m.parts.length else 0))+fU a i x+fU a i y;omega
def Hm{sh:Int}{fl:List FlM}{mix:Int→Bool}{W:Wk}{k:Nat}{m:MvM}(h:WkG sh fl k W)(hm:MvG m)(a i:Int):(gStk mix W m a i).length≤(W.stk a i).length+(if m.frm=a∧m.item=i then m.parts.length else 0):=by
 unfold gStk;by_cases h0:m.frm=0
 ·rw[if_pos h0];exact dW _ _
 rw[if_neg h0];unfold upd2;by_cases ha:a=m.frm∧i=m.item
 case neg =>
  rw[if_neg ha];exact dW _ _
 rw[if_pos ha,if_pos ⟨ha.1.symm,ha.2.symm⟩];obtain⟨rfl,rfl⟩:=ha;unfold DP;by_cases hp:m.parts=[]
 ·rw[if_pos hp];exact aP (oq _ _ _).2 (dW _ _)
 ·rw[if_neg hp];have hs:=h.stk m.frm m.item;exact(Be (⟨aq _,hs.ok,hs.apt⟩:StkG (W.stk m.frm m.item).length _ _) hm.lots).len
def FD{sh:Int}{fl:List FlM}{mix:Int→Bool}{s:StM}{W:Wk}{k:Nat}{m:MvM}(h:WkG sh fl k W)(hm:MvG m)(he:(db sh fl mix s W m).1=0)(a i:Int):((db sh fl mix s W m).2.stk a i).length≤(W.stk a i).length+fU a i [m]:=by
 have h9:=Hm (mix:=mix) h hm a i;have e1:fU a i [m]=((if m.to=a∧m.item=i then 1 else 0)+(if m.frm=a∧m.item=i then m.parts.length else 0))+0:=rfl;rw[e1];unfold db at he ⊢;by_cases h1:gErr sh (fl++W.flows) s W m≠0
 ·rw[if_pos h1] at he;exact absurd he h1
 rw[if_neg h1] at he ⊢;by_cases h2:ew W m>1099511627776
 ·rw[if_pos h2] at he;exact absurd (show(4:Int)=0 from he) ae
 rw[if_neg h2] at he ⊢;by_cases h3:m.to=0
 ·rw[if_pos h3];dsimp only;omega
 rw[if_neg h3] at he ⊢;by_cases h4:4096≤(gStk mix W m m.to m.item).length
 ·rw[if_pos h4] at he;exact absurd (show(4:Int)=0 from he) ae
 rw[if_neg h4];dsimp only;unfold upd2;by_cases ha:a=m.to∧i=m.item
 ·rw[if_pos ha,if_pos ⟨ha.1.symm,ha.2.symm⟩];obtain⟨rfl,rfl⟩:=ha;have:=qf (gStk mix W m m.to m.item) (eU sh fl.length W,0,m.n)
  omega
 ·rw[if_neg ha];omega
structure LedA (k:Nat) (S:LedM):Prop where
 g:LedG k S
 fa:FlA S.flows
 fn:FlN S.shard S.flows
 il:(cz S.flows).length≤k
 rl:(fT S.flows).length≤k
def Cb{k:Nat}{S:LedM}(h:LedA k S):WkA S.shard S.flows k (wk0 S):=by
 have e:S.flows++(wk0 S).flows=S.flows:=aH _;refine⟨HE h.g,?_,?_,?_,?_⟩
 ·rw[e];exact h.fa
 ·rw[e];exact h.fn
 ·rw[e];exact h.il
 ·rw[e];exact h.rl
def yq{sh:Int}{fl:List FlM}{mix:Int→Bool}{s:StM}(a1:0≤sh):∀{ms:List MvM} {W:Wk} {k:Nat},WkA sh fl k W→(∀m∈ms,MvA s.kind m)→k+mvK ms≤2000→(dP sh fl mix s W ms).1=0→WkA sh fl (k+mvK ms) (dP sh fl mix s W ms).2∧∀a i,((dP sh fl mix s W ms).2.stk a i).length≤(W.stk a i).length+fU a i ms
 | [],_,_,h,_,_,_=>⟨h,fun _ _=>aq _⟩
 | m::ms,W,k,h,hm,hk,he=>by
  have e:dP sh fl mix s W (m::ms)=if(db sh fl mix s W m).1=0 then dP sh fl mix s (db sh fl mix s W m).2 ms else((db sh fl mix s W m).1,W):=rfl;have ek:mvK (m::ms)=(m.parts.length+1)+mvK ms:=rfl;rw[e] at he ⊢;by_cases h1:(db sh fl mix s W m).1=0
  ·rw[if_pos h1] at he ⊢;have a0:=hm m av;obtain⟨i1,i2⟩:=yq a1 (ms:=ms) (BO a1 h a0 ab h1) (fun x hx=>hm x (au _ hx)) ab he;refine⟨by rw[ek,←dS,←dS];exact i1,fun a i=>?_⟩;have g1:=i2 a i;have g2:=FD h.g a0.g h1 a i;have g3:fU a i (m::ms)=fU a i [m]+fU a i ms:=pD a i [m] ms;omega
  ·rw[if_neg h1] at he;exact absurd he h1
def oL{c:CatM}{now:Int}{s:StM}(h:gY c now s):∀m∈s.moves,MvA s.kind m:=fun m hm=>EV h.1 ((possG_A.1 h).2.2.2.2.1 m hm)
def BN{k:Nat}{S:LedM}{s:StM}(h:LedA k S)(hk:k+mvK s.moves≤2000):LedA (k+mvK s.moves) (ce S s)∧∀a i,((ce S s).stk a i).length≤(S.stk a i).length+fU a i s.moves:=by
 have g0:=IW h.g hk;have il:=h.il;have rl:=h.rl;by_cases he:(gTry S s).1=0
 case neg =>
  have e:ce S s=S:=if_neg he;rw[e] at g0 ⊢;exact⟨⟨g0,h.fa,h.fn,ab,ab⟩,fun a i=>dW _ _⟩
 have e:ce S s=fV S s:=if_pos he;rw[e] at g0 ⊢;by_cases h1:65536≤S.steps.length
 ·have e:gTry S s=(4,wk0 S):=by unfold gTry;rw[if_pos h1]
  rw[e] at he;exact absurd (show(4:Int)=0 from he) ae
 by_cases h2:gY S.cat S.now s
 case neg =>
  have e:gTry S s=(1,wk0 S):=by unfold gTry;rw[if_neg h1,if_pos h2]
  rw[e] at he;exact absurd (show(1:Int)=0 from he) ae
 have e:gTry S s=dP S.shard S.flows (fJ S.cat) (s.at (cV S)) (wk0 S) s.moves:=by unfold gTry;rw[if_neg h1,if_neg (fun q=>q h2)]
 rw[e] at he;obtain⟨g1,g2⟩:=yq (ms:=s.moves) (s:=s.at (cV S)) h.g.shard.1 (Cb h) (oL h2) hk he;rw[←e] at g1 g2;exact⟨⟨g0,g1.fa,g1.fn,g1.il,g1.rl⟩,g2⟩
end
end Go.Proofs.YtlgpgjdggilkgaaGreatDoor
namespace Go.V
section
variable {P:Program}{N:Nat}{ops:Array Oper}{done:List Nat}{plan:List Stp}{pend:List PE}{env:Env}{L:LH}{K:Post}
def GP.fct{φ:Prop}(h:∀θ R w,Sat θ (L++R) w→φ)(k:φ→GP P N ops done plan pend env L K):GP P N ops done plan pend env L K:=fun hK hp hs a0 θ Y a w S i a1 a2=>let ⟨_,_,_,s⟩:=i;k (h θ _ w s) hK hp hs a0 θ Y a w S i a1 a2
def GPW.fct{s:Stp}{a0:Option Tmp}{op:Op}{ty:TypeId}{φ:Prop}(h:∀θ R w,Sat θ (L++R) w→φ)(k:φ→GPW P N ops done s plan a0 op ty pend env L K):GPW P N ops done s plan a0 op ty pend env L K:=fun pos af g h1 h2=>GP.fct h (fun hφ=>k hφ pos af g h1 h2)
end
end Go.V
namespace Go.Proofs.YtlgpgjdggilkgaaGreatDoor
section
open Go.V
attribute [local irreducible] G GO GP GPW GPK Ev Ef EfR Ent CB GB V.Enters
structure StG0 (s:StV):Prop where
 inp:StInG s
 cap:s.moves.length≤s.mcap
 form:(s.moves.length≤1∧∀m∈s.moves,m.m.parts.length≤1)∨(s.moves.length≤3∧∀m∈s.moves,m.m.parts=[])
 lots:(∀m∈s.m.moves,m.frm≠m.to)→∀a i,fU a i s.m.moves≤1
def xQ:∀{ms:List MvM},(∀m∈ms,m.parts=[])→mvK ms=ms.length
 | [],_=>rfl
 | m::ms,h=>by
  have h1:=xQ (ms:=ms) (fun x hx=>h x (au _ hx));have h2:m.parts.length=0:=by rw[h m av];rfl
  show(m.parts.length+1)+mvK ms=ms.length+1;omega
def StG0.k{s:StV}(h:StG0 s):mvK s.m.moves≤3:=by
 have hl:s.m.moves.length=s.moves.length:=an _;rcases h.form with⟨h1,h2⟩|⟨h1,h2⟩
 ·show mvK (s.moves.map MvV.m)≤3;match hm:s.moves,h1,h2 with
  | [],_,_=>exact aw _
  | [m],_,h2 =>
   have:=h2 m av
   show(m.m.parts.length+1)+0≤3;omega
 ·rw[xQ (fun m hm=>by
   obtain⟨u,hu,rfl⟩:=List.mem_map.1 hm;exact h2 u hu),hl]
  exact h1
def rx{ms:List MvV}(h:∀m∈ms,m.m.parts=[]):(∀m∈ms,m.m.parts.length≤9223372036854775807)∧(∀m∈ms,m.m.parts.length≤m.pcap)∧∀m∈ms,∀p∈m.m.parts,p.1≤9223372036854775807 :=
 ⟨fun m hm=>by rw[h m hm];exact aw _,fun m hm=>by rw[h m hm];exact aw _,fun m hm p hp=>by rw[h m hm] at hp;cases hp⟩
def chgT(s:Int):Int×Int:=if s<0 then(0,10) else if 1099511627776<s then(0,4) else(s,0)
structure TotI (items:Int) (t:List Int):Prop where
 len:t.length=items.toNat
 bd:∀i,i<t.length→0≤t[i]!∧t[i]!≤1099511627776
def Jc{s:Int}(h:(chgT s).2=0):(chgT s).1=s∧0≤s∧s≤1099511627776:=by
 unfold chgT at h ⊢;by_cases h1:s<0
 ·rw[if_pos h1] at h;exact absurd (show(10:Int)=0 from h) ae
 ·rw[if_neg h1] at h ⊢;by_cases h2:1099511627776<s
  ·rw[if_pos h2] at h;exact absurd (show(4:Int)=0 from h) ae
  ·rw[if_neg h2];exact⟨rfl,ab,ab⟩
def TotI.set{items:Int}{t:List Int}(h:TotI items t){k:Nat}{s:Int}(hs:(chgT s).2=0):TotI items (t.set k (chgT s).1):=by
 obtain⟨e,b1,b2⟩:=Jc hs;refine⟨by rw[bH];exact h.len,fun i hi=>?_⟩;rw[bH] at hi;rw[e,getElem!_of (by rw[bH];exact hi),fG];split
 ·exact⟨b1,b2⟩
 ·have:=h.bd i hi
  rw[getElem!_of hi] at this;exact this
end
end Go.Proofs.YtlgpgjdggilkgaaGreatDoor
namespace Go.V
def nC{P:Program}{E:TypeId}(h:P.underlying E=some (.int .i64)):∀w,(isAgg E).run P w=.ok false w:=fun w=>by simp[isAgg,run_underlying h]
def wT{P:Program}{K E:Nat}[h:TyArr P K 2 E 1][he:TyInt P E .i64](a b:Int×Int)(w:World):(Op.equal K (kvP a) (kvP b)).run P w=.ok (decide (a=b)) w:=by
 have hE:=he.under;have hi:=h.size;cases hx:P.info? E with
 | none=>rw[hx] at hi;cases hi
 | some i =>
  have hc:P.cellsOf E=1:=by
   rw[hx] at hi;simp[Program.cellsOf,hx] at hi ⊢;exact hi
  obtain⟨a1,a2⟩:=a;obtain⟨b1,b2⟩:=b;have hq:=run_equalIn_array (P:=P) (w:=w) 9999 #[ac a1,ac a2] #[ac b1,ac b2] h.under hx;have e0:∀(c d:Int) (w:World),(part E #[Value.int .i64 c,Value.int .i64 d] 0).run P w=.ok (ac c) w:=fun c d w=>iK (nC hE) rfl;have e1:∀(c d:Int) (w:World),(part E #[Value.int .i64 c,Value.int .i64 d] 1).run P w=.ok (ac d) w:=fun c d w=>iK (nC hE) rfl;show(Op.equalIn (9999+1) K (.agg #[ac a1,ac a2]) (.agg #[ac b1,ac b2])).run P w=_;rw[hq,hc];have q:=fun c d=>run_equalIn_int (P:=P) w 9998 E .i64 .i64 c d hE;rw[show List.range 2=[0,1] from rfl];simp only[Op.eqItems,Sem.run_bind,Nat.zero_mul,Nat.one_mul,e0,e1,Result.andThen_ok,q];by_cases h1:a1=b1
  ·by_cases h2:a2=b2
   ·simp[h1,h2,e1,q]
   ·simp[h1,h2,e1,q]
  ·simp[h1]
theorem keyA{P:Program}{K E:Nat}[h:TyArr P K 2 E 1][he:TyInt P E .i64]:KeyT P K kvP where
 inj a b h:=by
  simp[kvP] at h;exact Prod.ext h.1 h.2
 check e k w:=by
  have hE:=he.under;have e0:∀(c d:Int) (w:World),(part E #[Value.int .i64 c,Value.int .i64 d] 0).run P w=.ok (ac c) w:=fun c d w=>iK (nC hE) rfl;have e1:∀(c d:Int) (w:World),(part E #[Value.int .i64 c,Value.int .i64 d] 1).run P w=.ok (ac d) w:=fun c d w=>iK (nC hE) rfl;have e2:∀(m:Nat) (c:Int) (w:World),(Instr.checkKey e (m+1) E (ac c)).run P w=.ok () w:=fun m c w=>by simp[Instr.checkKey,run_underlying hE]
  have a0:∀m,(Instr.checkKey e (m+1+1) K (.agg #[ac k.1,ac k.2])).run P w=.ok () w:=by
   intro m;rw[Instr.checkKey];simp only[Sem.run_bind,run_underlying h.under,Result.andThen_ok];simp[Std.Legacy.Range.forIn_eq_forIn_range',Std.Legacy.Range.size,List.range'_succ,h.sizeOf_run,e0,e1,e2]
  exact a0 9998
 bits k:=by
  have:∀n,Instr.sameBits (n+1) (kvP k) (kvP k)=true:=fun n=>by simp[Instr.sameBits,kvP]
  exact this 9999
 find k es ks w he':=by
  have hq:∀a b:Int×Int,(Op.equal K (kvP a) (kvP b)).run P w=.ok (decide (a=b)) w:=fun a b=>wT a b w;have h2:=lA (P:=P) (K:=K) (w:=w) hq k es ks 0 he';simp only[Instr.findKey,Sem.run_bind,run_underlying h.under,Result.andThen_ok];cases es with
  | nil =>
   cases ks with
   | nil=>simp[Instr.findNow]
   | cons _ _=>simp at he'
  | cons x es =>
   cases ks with
   | nil=>simp at he'
   | cons q ks =>
    have hn:Instr.findNow (.array 2 E) (kvP k) (x::es) 0=none:=by simp[Instr.findNow,Instr.sameNow]
    rw[hn];simp only[du] at h2;exact h2
end Go.V
namespace Go.Proofs.YtlgpgjdggilkgaaGreatDoor
open Go.V
attribute [local irreducible] G GO GP GPW GPK Ev Ef EfR Ent CB GB V.Enters
def updH(f:Int→Int→Int)(a i n:Int):Int→Int→Int:=fun x y=>if x=a∧y=i then n else f x y
structure HldI (f:Int→Int→Int):Prop where
 bd:∀a i,0≤f a i∧f a i≤1099511627776
 zero:∀i,f 0 i=0
def HldI.upd{f:Int→Int→Int}(h:HldI f){a i n:Int}(ha:a≠0)(h1:0≤n)(h2:n≤1099511627776):HldI (updH f a i n):=by
 refine⟨fun x y=>?_,fun y=>?_⟩
 ·unfold updH;split
  ·exact⟨h1,h2⟩
  ·exact h.bd x y
 ·unfold updH;rw[if_neg (fun e=>ha e.1.symm)];exact h.zero y
