/- Lemmas. -/
import Derived.Test.YtlgpgjdggilkgaaGreatDoorEcac
import Derived.Laws.BytesArg
import Derived.Laws.Strings
import Derived.Laws.MakeOwn
set_option linter.all false
namespace Go.V
section
section
variable {P:Program}{N:Nat}{env:Env}{L:LH}{K:Post}
def G.c9{c:Code}{φ:Prop}(h:∀θ R w,Sat θ (L++R) w→φ)(k:φ→G P N c env L K):G P N c env L K:=fun r θ Y a w hr i=>let ⟨_,_,_,s⟩:=i;k (h θ _ w s) r θ Y a w hr i
def GO.g9{a0:Array Oper}{l:List Oper}{φ:Prop}(h:∀θ R w,Sat θ (L++R) w→φ)(k:φ→GO P N a0 l env L K):GO P N a0 l env L K:=fun r θ Y a w hr i=>let ⟨_,_,_,s⟩:=i;k (h θ _ w s) r θ Y a w hr i
def G.ent{c:Code}{L' : LH}(hl:Ent L L')(h:G P N c env L' K):G P N c env L K:=h.conseq (EnvSub.refl _) hl
def GO.ent{a0:Array Oper}{l:List Oper}{L' : LH}(hl:Ent L L')(h:GO P N a0 l env L' K):GO P N a0 l env L K:=h.conseq (EnvSub.refl _) hl
def GP.ent{a1:Array Oper}{done:List Nat}{plan:List Stp}{a0:List PE}{L' : LH}(hl:Ent L L')(h:GP P N a1 done plan a0 env L' K):GP P N a1 done plan a0 env L K:=fun hK hp hs a2 θ Y a w S i a3 a4=>h hK hp hs a2 θ Y a w S (i.less (EnvSub.refl _) hl) a3 a4
def GPW.ent{a2:Array Oper}{done:List Nat}{plan:List Stp}{a0:List PE}{L' : LH}{s:Stp}{a1:Option Tmp}{op:Op}{ty:TypeId}(hl:Ent L L')(h:GPW P N a2 done s plan a1 op ty a0 env L' K):GPW P N a2 done s plan a1 op ty a0 env L K:=fun pos af g h1 h2=>GP.ent hl (h pos af g h1 h2)
def G.c7{α:Type}{x y:Code}(Inv:α→Prop)(e:α→Env)(l:α→LH)(h:G P N x env L (K.seq fun a0 L'=>∃g,Inv g∧EnvSub a0 (e g)∧Ent L' (l g)))(h' : ∀g,Inv g→G P N y (e g) (l g) K):G P N (.seq x y) env L K :=
 G.mid _ h (by rintro a0 L' ⟨g,h1,h2,h3⟩;exact(h' g h1).conseq h2 h3)
def G.less{c:Code}{a0 : Env}(he:EnvSub env a0)(h:G P N c a0 L K):G P N c env L K:=h.conseq he (Ent.refl _)
def G.c8{α:Type}{c:Code}{f:α→LH}(h:∀x,G P N c env (f x++L) K):G P N c env (hex (fun x=>cm (f x))::L) K:=G.open_ (φ:=fun _=>True) (L':=fun x=>f x++L) (fun θ R w s =>
 let ⟨x,s1⟩:=Sat.ofHex (show Sat θ (hex (fun x=>cm (f x))::(L++R)) w from s);⟨x,trivial,by rw[List.append_assoc];exact s1.ofStars⟩) (fun x _=>h x)
def GO.c8{α:Type}{a0:Array Oper}{l:List Oper}{f:α→LH}(h:∀x,GO P N a0 l env (f x++L) K):GO P N a0 l env (hex (fun x=>cm (f x))::L) K:=GO.open_ (φ:=fun _=>True) (L':=fun x=>f x++L) (fun θ R w s =>
 let ⟨x,s1⟩:=Sat.ofHex (show Sat θ (hex (fun x=>cm (f x))::(L++R)) w from s);⟨x,trivial,by rw[List.append_assoc];exact s1.ofStars⟩) (fun x _=>h x)
def Ent.g8{α:Type}{f:α→LH}{R:LH}(x:α)(h:Ent L (f x++R)):Ent L (hex (fun x=>cm (f x))::R):=fun θ R' w s=>by
 have s1:=h θ R' w s;rw[List.append_assoc] at s1;exact Sat.d8 (f:=fun x=>cm (f x)) x (Sat.a8 s1)
def Ent.pure{φ:Prop}{L' : LH}(hφ:φ)(h:Ent L L'):Ent L (cY φ::L'):=fun θ R w s=>Sat.addPure (h θ R w s) hφ
def G.d7{c:Code}{φ:Prop}(h:φ→G P N c env L K):G P N c env (cY φ::L) K:=G.open_ (φ:=fun _:Unit=>φ) (L':=fun _=>L) (fun θ R w s=>⟨(),Sat.ofPure (show Sat θ (cY φ::(L++R)) w from s),s.tail⟩) (fun _=>h)
def GO.d7{a0:Array Oper}{l:List Oper}{φ:Prop}(h:φ→GO P N a0 l env L K):GO P N a0 l env (cY φ::L) K:=GO.open_ (φ:=fun _:Unit=>φ) (L':=fun _=>L) (fun θ R w s=>⟨(),Sat.ofPure (show Sat θ (cY φ::(L++R)) w from s),s.tail⟩) (fun _=>h)
def Ent.dup{A:HP}(hA:Pers A):Ent (A::L) (A::A::L):=fun _ _ _ s=>Sat.dup hA s
def Ent.freezeSl{α:Type}{enc:α→LV}{sz E:Nat}{ad:OA}{cap:Nat}{xs:List α}:Ent (osl enc sz E ad cap xs::L) (isl enc sz ad xs::L):=fun _ _ _ s=>Sat.freezeSl s
def Ent.f7{α:Type}{enc:α→LV}{sz E b:Nat}{cs:LV}{xs:List α}{n:Nat}(hc:cs=xs.flatMap enc)(hn:xs.length=n)(hs:∀x∈xs,(enc x).length=sz)(hm:n≤9223372036854775807):Ent (obj b E cs::L) (osl enc sz E (some ⟨b,0,none⟩) n xs::L):=fun θ R w s=>by
 subst hc hn;exact Sat.osl_mk (show Sat θ (own b (.cells (xs.flatMap enc).toArray E (0,0))::(L++R)) w from s) hs (Nat.le_refl _) (by simp only[maxLen];omega) (by simp[dm hs]) (List.take_of_length_le (by rw[dm hs];exact Nat.le_refl _))
def Ent.c8{α:Type}(enc:α→LV)(sz E:Nat):Ent L (osl enc sz E none 0 []::L):=fun _ _ _ s=>Sat.d7 enc sz E s
def Ent.d9{α:Type}(enc:α→LV)(sz:Nat)(ad:OA):Ent L (isl enc sz ad []::L):=fun θ R w s=>by
 obtain⟨ok,ι,h',a,b1,c,d⟩:=s;exact⟨ok,ι,h',a,b1,c,Hp.emp,Hp.emp,h',Hp.a8 _,Hp.c7 _,Hp.a8 _,Hp.sub.refl _,⟨by simp,.inl rfl⟩,d⟩
def mI{α:Type}{enc:α→LV}{sz:Nat}{xs:List α}[h:Rds L none α enc sz xs]:∀θ R w,Sat θ (L++R) w→xs=[]:=fun θ R w s=>by
 rcases (h.rd θ R w s).2 with h|⟨a,ha,_⟩
 ·exact h
 ·cases ha
def kE{α:Type}{enc:α→LV}{sz E:Nat}{ad:OA}{cap:Nat}{xs:List α}{R' : LH}[h:PickOsl L ad α enc sz E cap xs R']:∀θ R w,Sat θ (L++R) w→xs.length≤cap∧cap≤9223372036854775807:=fun θ R w s=>by
 have:=(s.perm (h.perm.append_right R)).osl_parts
 simp only[maxLen] at this;exact⟨this.2.1,by omega⟩
def allP{α:Type}(f:α→HP)(l:List α):HP:=fun ι _=>∀x∈l,f x ι Hp.emp
def Ent.c7{α:Type}(f:α→HP):Ent L (allP f []::L):=fun θ R w s=>by
 obtain⟨ok,ι,h',a,b1,c,d⟩:=s;exact⟨ok,ι,h',a,b1,c,Hp.emp,Hp.emp,h',Hp.a8 _,Hp.c7 _,Hp.a8 _,Hp.sub.refl _,(by intro x hx;cases hx),d⟩
structure PersM (A:HP):Prop where
 pers:Pers A
 mono:∀ι ι' h,Hp.sub ι ι'→A ι h→A ι' h
def bO{α:Type}(enc:α→LV)(sz:Nat)(ad:OA)(xs:List α):PersM (isl enc sz ad xs):=⟨lw enc sz ad xs,fun ι ι' h hs hi=>by
 obtain⟨h1,h2⟩:=hi;refine⟨h1,?_⟩;rcases h2 with h2|⟨g,off,a0,E,fz,f1,f2,f3⟩
 ·exact .inl h2
 ·exact .inr ⟨g,off,a0,E,fz,f1,hs _ _ f2,f3⟩⟩
def Ent.g9{α:Type}{f:α→HP}{l l' : List α}(h:∀x∈l',x∈l):Ent (allP f l::L) (allP f l'::L):=fun θ R w s=>by
 obtain⟨ok,ι,h',a,b1,c,ι₀,h₁,h₂,d1,d2,d3,d4,d5,d6⟩:=s;exact⟨ok,ι,h',a,b1,c,ι₀,h₁,h₂,d1,d2,d3,d4,fun x hx=>d5 x (h x hx),d6⟩
def Ent.j5{α:Type}{f:α→HP}(hf:∀x,PersM (f x)){x:α}{l:List α}:Ent (f x::allP f l::L) (allP f (x::l)::L):=fun θ R w s=>by
 obtain⟨ok,ι,h',a,b1,c,ι₁,h₁,h₂,d1,d2,d3,d4,d5,ι₂,h₃,h₄,e1,e2,e3,e4,e5,e6⟩:=s;refine⟨ok,ι,h',a,b1,c,ι,Hp.emp,h₄,Hp.sub.refl _,Hp.c7 _,Hp.a8 _,e4.trans d4,?_,e6⟩;intro y hy;rcases List.mem_cons.1 hy with rfl|hy
 ·exact(hf _).mono _ _ _ d1 ((hf _).pers _ _ d5)
 ·exact(hf _).mono _ _ _ e1 (e5 y hy)
def Ent.d7{α:Type}{f:α→HP}(hf:∀x,PersM (f x)){l l' : List α}:Ent (allP f l::allP f l'::L) (allP f (l++l')::L):=fun θ R w s=>by
 obtain⟨ok,ι,h',a,b1,c,ι₁,h₁,h₂,d1,d2,d3,d4,d5,ι₂,h₃,h₄,e1,e2,e3,e4,e5,e6⟩:=s;refine⟨ok,ι,h',a,b1,c,ι,Hp.emp,h₄,Hp.sub.refl _,Hp.c7 _,Hp.a8 _,e4.trans d4,?_,e6⟩;intro y hy;rcases List.mem_append.1 hy with hy|hy
 ·exact(hf _).mono _ _ _ d1 (d5 y hy)
 ·exact(hf _).mono _ _ _ e1 (e5 y hy)
def Ent.d8{α:Type}{f:α→HP}(hf:∀x,PersM (f x)){x:α}:Ent (f x::L) (allP f [x]::L):=fun θ R w s=>by
 obtain⟨ok,ι,h',a,b1,c,ι₁,h₁,h₂,d1,d2,d3,d4,d5,d6⟩:=s;refine⟨ok,ι,h',a,b1,c,ι₁,h₁,h₂,d1,d2,d3,d4,?_,d6⟩;intro y hy;simp at hy;subst hy;exact(hf _).pers _ _ d5
def Ent.c9{α:Type}{f:α→HP}{l:List α}{x:α}(h:x∈l):Ent (allP f l::L) (f x::allP f l::L):=fun θ R w s=>by
 obtain⟨ok,ι,h',a,b1,c,ι₁,h₁,h₂,d1,d2,d3,d4,d5,d6⟩:=s;exact⟨ok,ι,h',a,b1,c,ι₁,Hp.emp,h',d1,Hp.c7 _,Hp.a8 _,Hp.sub.refl _,d5 x h,ι₁,h₁,h₂,d1,d2,d3,d4,d5,d6⟩
def Ent.frz{α:Type}{enc:α→LV}{sz E:Nat}(ad:OA){cap:Nat}{xs:List α}{R:LH}[h:PickOsl L ad α enc sz E cap xs R]:Ent L (isl enc sz ad xs::R):=(Ent.perm h.perm).trans Ent.freezeSl
def Ent.at{A:HP}{R L' : LH}[h:PickHP L A R](hr:Ent (A::R) L'):Ent L L':=(Ent.perm h.perm).trans hr
def Ent.swap{A B:HP}:Ent (A::B::L) (B::A::L):=Ent.perm (List.Perm.swap _ _ _)
def Ent.a8{A:HP}{L' : LH}(h:Ent L L'):Ent (A::L) (A::L'):=h.cons
end
def ResOk.cell{P:Program}{N:Nat}{env:Env}{L Rest:LH}{rs:List ResultVar}{vs cs:LV}{x b T n:Nat}{t:TypeId}[ht:TyAgg P t n][hp:PickObj L b T cs Rest](h:env.lookup x=some (.pointer (some ⟨b,0,none⟩)))(hn:cs.length=n)(hr:ResOk P N env L rs vs):ResOk P N env L (.cell x t::rs) (.agg cs.toArray::vs):=by
 intro θ R a w ea s g h1 h2;have h3:=ea.at_ x _ h;have hb:=s.obj_heap hp.perm;have hl:=run_loadCells_list (P:=P) w ⟨b,0,none⟩ cs (fun j v hv=>by rw[fZ,eD hb];simpa using hv);rw[hn] at hl;simp[List.mapM_cons,hr θ R a w ea s g h1 h2,h2,h3,asAddr,loadVar,ht.run,TyAgg.sizeOf_run,hl]
def ResOk.a8{P:Program}{N:Nat}{env:Env}{L Rest:LH}{rs:List ResultVar}{vs:LV}{v:Value}{x b T:Nat}{t:TypeId}[ht:TyOne P t][hp:PickObj L b T [v] Rest](h:env.lookup x=some (.pointer (some ⟨b,0,none⟩)))(hr:ResOk P N env L rs vs):ResOk P N env L (.cell x t::rs) (v::vs):=by
 intro θ R a w ea s g h1 h2;have h3:=ea.at_ x _ h;have hb:=s.obj_heap hp.perm;simp[List.mapM_cons,hr θ R a w ea s g h1 h2,h2,h3,asAddr,loadVar,ht.run,eD hb]
def bigO{α:Type}(f:α→HP)(l:List α):HP:=cm (l.map f)
def Ent.j0{α:Type}(f:α→HP){L:LH}:Ent L (bigO f []::L):=fun _ _ _ s=>Sat.a8 (A:=[]) s
def Ent.k8{α:Type}{f:α→HP}{x:α}{l:List α}{L:LH}:Ent (f x::bigO f l::L) (bigO f (l++[x])::L):=fun θ R w s=>by
 have s1:Sat θ (bigO f l::f x::(L++R)) w:=s.perm (List.Perm.swap _ _ _);have s2:=Sat.ofStars s1;refine Sat.a8 (A:=(l++[x]).map f) ?_;simpa using s2
def Ent.bigO_cons{α:Type}{f:α→HP}{x:α}{l:List α}{L:LH}:Ent (f x::bigO f l::L) (bigO f (x::l)::L):=fun θ R w s=>by
 have s1:Sat θ (bigO f l::f x::(L++R)) w:=s.perm (List.Perm.swap _ _ _);have s2:=Sat.ofStars s1;refine Sat.a8 (A:=(x::l).map f) ?_;exact s2.perm List.perm_middle
def Ent.bigO_uncons{α:Type}{f:α→HP}{x:α}{l:List α}{L:LH}:Ent (bigO f (x::l)::L) (f x::bigO f l::L):=fun θ R w s=>by
 have s2:Sat θ (f x::(l.map f++(L++R))) w:=Sat.ofStars (A:=(x::l).map f) s;have s3:Sat θ (l.map f++(f x::(L++R))) w:=s2.perm List.perm_middle.symm;exact(Sat.a8 (A:=l.map f) s3).perm (List.Perm.swap _ _ _)
def Ent.l5{α:Type}{f g:α→HP}(hg:∀x,PersM (g x))(h:∀x L,Ent (f x::L) (g x::L)):∀(l:List α) (L:LH),Ent (bigO f l::L) (allP g l::L)
 | [],_=>(Ent.drop).trans (Ent.c7 g)
 | x::l,L=>(Ent.bigO_uncons).trans ((h x _).trans ((Ent.a8 (Ent.l5 hg h l L)).trans (Ent.j5 hg)))
def encZ(k:IntKind)(x:Int):LV:=[.int k x]
def iu(k:IntKind)(x:Int):∀u∈encZ k x,u.oneCell' = true:=by simp[encZ,Value.oneCell']
def nV{α:Type}(f:α→Value)(xs:List α):xs.flatMap (fun x=>[f x])=xs.map f:=by
 induction xs with
 | nil=>rfl
 | cons x xs ih=>simp[ih]
end
section
class TyBool (P:Program) (T:Nat):Prop where
 under:P.underlying T=some .bool
section
variable {P:Program}{env:Env}{L:LH}{ty:TypeId}
def pC{t:TypeId}{a b:Bool}{w:World}{n:Nat}(he:P.underlying t=some .bool):(Op.equalIn (n+1) t (.bool a) (.bool b)).run P w=.ok (a == b) w:=by
 simp[Op.equalIn,run_underlying he]
def Ev.y6{t yt:TypeId}{x y:Operand}{φ ψ:Prop}[Decidable φ][Decidable ψ][ht:TyBool P t](hx:evE env x=some (.bool (dB φ)))(hy:evE env y=some (.bool (dB ψ))):Ev P L env (.binOp .neq t x y yt) ty (.bool (dB (¬(φ↔ψ)))) :=
 Ev.mk (fun _ _ _ w ea _ _ _ _ _=>by
  have h1:=kD (P:=P) (w:=w) (fun n=>pC (n:=n) (a:=dB φ) (b:=dB ψ) ht.under)
  have h2:(!(dB φ == dB ψ))=dB (¬(φ↔ψ)):=by
   rw[dK,dK,dK];by_cases h:φ<;>by_cases h' : ψ<;>simp[h,h']
  simp[execOp,aL ea hx,aL ea hy,eqGuard,binOp,h1,h2])
def Ev.y7{t yt:TypeId}{x y:Operand}{φ ψ:Prop}[Decidable φ][Decidable ψ][ht:TyBool P t](hx:evE env x=some (.bool (dB φ)))(hy:evE env y=some (.bool (dB ψ))):Ev P L env (.binOp .eql t x y yt) ty (.bool (dB (φ↔ψ))) :=
 Ev.mk (fun _ _ _ w ea _ _ _ _ _=>by
  have h1:=kD (P:=P) (w:=w) (fun n=>pC (n:=n) (a:=dB φ) (b:=dB ψ) ht.under)
  have h2:(dB φ == dB ψ)=dB (φ↔ψ):=by
   rw[dK,dK,dK];by_cases h:φ<;>by_cases h' : ψ<;>simp[h,h']
  simp[execOp,aL ea hx,aL ea hy,eqGuard,binOp,h1,h2])
def yW(a b:ByteArray):(a.toList == b.toList)=decide (a=b):=by
 rw[ByteArray.toList_eq,ByteArray.toList_eq];cases a with|mk a=>cases b with|mk b =>
 by_cases h:a=b
 ·subst h;simp
 ·simp[h]
def Ev.t6{t yt:TypeId}{x y:Operand}{a b:ByteArray}(hx:evE env x=some (.string a))(hy:evE env y=some (.string b)):Ev P L env (.binOp .eql t x y yt) ty (.bool (dB (a=b))) :=
 Ev.mk (fun _ _ _ w ea _ _ _ _ _=>by
  simp[execOp,aL ea hx,aL ea hy,eqGuard,binOp,Op.stringOp,dK,yW])
def Ev.r7{t yt:TypeId}{x y:Operand}{a b:ByteArray}(hx:evE env x=some (.string a))(hy:evE env y=some (.string b)):Ev P L env (.binOp .neq t x y yt) ty (.bool (dB (¬a=b))) :=
 Ev.mk (fun _ _ _ w ea _ _ _ _ _=>by
  simp[execOp,aL ea hx,aL ea hy,eqGuard,binOp,Op.stringOp,dK,yW])
def nK(xs:List Int)(k:IntKind):xs.flatMap (encZ k)=xs.map (Value.int k):=nV _ xs
def Ev.k8{s t:TypeId}{x:Operand}{ad:OA}{n c E sz bb:Nat}{z:LV}{xs:List Int}[hs:TySl P s E sz bb z][he:TyInt P E .u8][ht:TyStr P t][hr:Rds L ad Int (encZ .u8) 1 xs](hx:evE env x=some (.slice ad n c))(hn:n=xs.length) :
  Ev P L env (.convert s t x) ty (.string (strOfNums xs)) :=
 Ev.mk (fun θ R _ w ea st _ _ _ _=>by
  subst hn;obtain⟨h1,h2⟩:=hr.rd θ R w st
  have hc:(convert s t (.slice ad xs.length c)).run P w=.ok (.string (strOfNums xs)) w:=by
   rw[run_convert_bytes_string w s t E ad xs.length c hs.under he.under ht.under];rcases h2 with rfl|⟨a,rfl,h3⟩
   ·cases ad with
    | none=>simp[Conv.bytesToString,strOfNums];rfl
    | some a =>
     have hl:(loadCells a 0).run P w=.ok (([]:List Int).map (Value.int .u8)).toArray w:=by simp[loadCells,loadCellsFrom]
     exact(run_bytesToString w a 0 c [] hl).trans (by simp[strOfNums];rfl)
   ·rw[nK] at h3;have hl:=run_loadCells_list (P:=P) w a (xs.map (Value.int .u8)) h3;rw[List.length_map] at hl;rw[run_bytesToString w a xs.length c xs hl,foldl_push_bytes];simp[strOfNums,ByteArray.empty,ByteArray.emptyWithCapacity];rfl
  simp[execOp,aL ea hx,hc])
def ns{α:Type}[Inhabited α](f:Nat→α)(x:α)(n:Nat)(h:∀i,i<n→f i=x):(Array.range n).map f=(List.replicate n x).toArray:=by
 apply Array.ext
 ·simp
 ·intro i h1 h2;simp at h1 ⊢;exact h i h1
def Ef.makeSlice{t:TypeId}{x y:Operand}{E bb:Nat}{z0:Value}{α:Type}(enc:α→LV)(e:α){n:Int}[ht:TySl P t E 1 bb [z0]](hx:evE env x=some (.int .i64 n))(hy:evE env y=some (.int .i64 n))(he:enc e=[z0])(h0:0≤n)(h1:n*bb≤16777216)(h2:n≤1000000000) :
  Ef P L env (.makeSlice t x y) ty (fun v L'=>∃b,v=.slice (some ⟨b,0,none⟩) n.toNat n.toNat∧L' = osl enc 1 E (some ⟨b,0,none⟩) n.toNat (List.replicate n.toNat e)::L) :=
 Ef.val (fun θ R a w ea s a0 pos af g=>⟨.slice (some ⟨w.heap.size,0,none⟩) n.toNat n.toNat,w.alloc (.cells (List.replicate n.toNat z0).toArray E),_,by
  obtain⟨ii,zz,i1,i2,i3,i4,i5⟩:=ht.parts
  have hz:zz.cells=#[z0]:=by
   have:=i3
   apply Array.ext';simpa using this
  have hm:madeCells zz.cells (n.toNat*ii.size)=(List.replicate n.toNat z0).toArray:=by
   rw[hz,i4,Nat.mul_one];exact ns _ _ _ (fun i _=>by simp[Nat.mod_one])
  have hk:=run_make (P:=P) w t E ii zz ht.under i1 i2 .i64 .i64 n n h0 (Int.le_refl _) (by rw[i5,Int.mul_comm];omega) (by omega);rw[hm] at hk
  simp[execOp,aL ea hx,aL ea hy,hk],⟨_,rfl,rfl⟩,by
   have s1:=s.alloc (o:=.cells (List.replicate n.toNat z0).toArray E);refine Sat.osl_mk (enc:=enc) (sz:=1) (cap:=n.toNat) (xs:=List.replicate n.toNat e) (L:=L++R) s1 ?_ (by simp) (by simp only[maxLen];omega) (by simp) ?_
   ·intro x hx;rw[List.eq_of_mem_replicate hx,he];rfl
   ·have:∀k,(List.replicate k e).flatMap enc=List.replicate k z0:=by
     intro k;induction k with
     | zero=>rfl
     | succ k ih=>rw[List.replicate_succ,List.flatMap_cons,ih,he];rfl
    rw[this];simp⟩)
def Ef.ent{op:Op}{L' : LH}{post:Value→LH→Prop}(h:Ent L L')(k:Ef P L' env op ty post):Ef P L env op ty post:=fun θ R a w o next Q ha s h1 h2 hn=>k θ R a w o next Q ha (h θ R w s) h1 h2 hn
def Ef.k8{f:FuncId}{xs:Array Operand}{ats:Array TypeId}{vs:LV}{post:Value→LH→Prop}{A:HP}{R:LH}[h:PickHP L A R]
  (c:Tri P f vs.toArray (A::R) post) (hv:fD env xs.toList=some vs):Ef P L env (.call { callee:=.value (.func f),args:=xs,argTypes:=ats }) ty post:=Ef.ent (Ent.perm h.perm) (Ef.d9 c hv)
def yx{α:Type}[Inhabited α]{enc:α→LV}{sz o:Nat}{e:α}{v:Value}:∀{xs:List α} {j:Nat},(∀x∈xs,(enc x).length=sz)→j<xs.length→o<sz→enc e=(enc xs[j]!).set o v→(xs.set j e).flatMap enc=(xs.flatMap enc).set (j*sz+o) v
 | [],j,_,hj,_,_=>by simp at hj
 | x::xs,0,h,_,ho,he=>by
  have hx:=h x (by simp);simp only[List.set_cons_zero,List.flatMap_cons,Nat.zero_mul,Nat.zero_add];rw[List.set_append,if_pos (by omega),he];simp
 | x::xs,j+1,h,hj,ho,he=>by
  have hx:=h x (by simp);simp only[List.set_cons_succ,List.flatMap_cons];have e1:¬((j+1)*sz+o<(enc x).length):=by rw[hx,Nat.succ_mul];omega
  rw[List.set_append,if_neg e1];have e2:(j+1)*sz+o - (enc x).length=j*sz+o:=by rw[hx,Nat.succ_mul];omega
  rw[e2,yx (fun y hy=>h y (by simp[hy])) (by simpa using hj) ho (by simpa using he)]
def Ef.f7{t:TypeId}{x y:Operand}{ad:OA}{sz j o E cap:Nat}{α:Type}[Inhabited α]{enc:α→LV}{xs:List α}{Rest:LH}{v:Value}(e:α)[ht:TyOne P t][hp:PickOsl L ad α enc sz E cap xs Rest]
  (hx:evE env x=some (.pointer (elP ad sz j o))) (hy:evE env y=some v) (he:enc e=(enc xs[j]!).set o v) (h1:v.oneCell' = true) (hj:j<xs.length) (ho:o<sz) :
  Ef P L env (.store t x y) ty (fun _ L'=>L' = osl enc sz E ad cap (xs.set j e)::Rest) :=
 Ef.skip (fun θ R ρ w ea s b0 pos af g=>by
  have s1:=s.perm (hp.perm.append_right R);obtain⟨p1,p2,p3,p4⟩:=Sat.osl_parts s1;rcases p4 with⟨rfl,rfl⟩|⟨gb,a1,rfl,f1,f2,f3⟩
  ·omega
  ·have hb:w.heap[gb]? = some (.cells a1 E (0,0)):=f3.own_heap
   have a5:j*sz+o<xs.length*sz:=by
    have:(j+1)*sz≤xs.length*sz:=Nat.mul_le_mul_right _ hj
    rw[Nat.succ_mul] at this;omega
   have a6:j*sz+o<a1.size:=by
    have:=Nat.mul_le_mul_right sz p2
    omega
   have a3:∀y∈xs.set j e,(enc y).length=sz:=by
    intro y a9;rcases List.mem_or_eq_of_mem_set a9 with h|h
    ·exact p1 y h
    ·subst h;rw[he,List.length_set];exact p1 _ (by rw[List.getElem!_eq_getElem?_getD,List.getElem?_eq_getElem hj];exact List.getElem_mem _)
   have a0:w.cell? ⟨gb,j*sz+o,none⟩=some a1[j*sz+o]:=by rw[eD hb];simp[a6]
   have a4:w.frozen? ⟨gb,j*sz+o,none⟩=false:=by simp[World.frozen?,hb]
   have a2:v.cells=#[v]:=by cases v<;>first|rfl|cases h1
   refine⟨w.setCell ⟨gb,j*sz+o,none⟩ v,_,?_,rfl,?_⟩
   ·have a7 : evE env x=some (.pointer (some ⟨gb,j*sz+o,none⟩)):=by rw[hx];simp only[elP,Option.map_some,fZ]
    simp[execOp,aL ea a7,aL ea hy,Instr.storeAt,Instr.sureAddr,storeVar,TyOne.sizeOf_run,a2,storeCells,Addr.add,run_store _ _ _ _ _ h1,a0,a4]
   ·have s3:Sat θ (own gb (.cells (a1.setIfInBounds (j*sz+o) v) E (0,0))::(Rest++R)) (w.setCell ⟨gb,j*sz+o,none⟩ v):=by
     refine Sat.update f3 ⟨s.1.tape,s.1.os,s.1.output,s.1.drawn⟩ ?_ (fun k x hk hx=>by rw[lS v hk];exact hx);rw[me v hb]
    refine Sat.osl_mk (L:=Rest++R) s3 a3 (by simpa using p2) p3 (by simpa using f1) ?_;rw[yx p1 hj ho he,←f2];simp[List.take_set])
def Ef.j5{t:TypeId}{x y:Operand}{ad:OA}{j E cap:Nat}{k:IntKind}{n:Int}{xs:List Int}{Rest:LH}[ht:TyOne P t][hp:PickOsl L ad Int (encZ k) 1 E cap xs Rest]
  (hx:evE env x=some (.pointer (elP ad 1 j 0))) (hy:evE env y=some (.int k n)) (hj:j<xs.length) :
  Ef P L env (.store t x y) ty (fun _ L'=>L' = osl (encZ k) 1 E ad cap (xs.set j n)::Rest):=Ef.f7 n hx hy rfl rfl hj (by omega)
def Ev.k9{s t:TypeId}{x:Operand}{k:IntKind}{a:Int}[hs:TyInt P s k][ht:TyInt P t .i64](hx:evE env x=some (.int k a))(h0 : -9223372036854775808≤a)(h1:a≤9223372036854775807):Ev P L env (.convert s t x) ty (.int .i64 a):=by
 have:=Ev.conv (P:=P) (L:=L) (ty:=ty) (s:=s) (t:=t) hx
 rwa [IntWalk.i64_in a ⟨h0,h1⟩] at this
def Ev.l7{s t:TypeId}{x:Operand}{k:IntKind}{a:Int}[hs:TyInt P s k][ht:TyInt P t .u8](hx:evE env x=some (.int k a))(h0:0≤a)(h1:a≤255):Ev P L env (.convert s t x) ty (.int .u8 a):=by
 have:=Ev.conv (P:=P) (L:=L) (ty:=ty) (s:=s) (t:=t) hx
 rwa [IntWalk.u8_in a ⟨h0,h1⟩] at this
def Ev.k7{s t:TypeId}{x:Operand}{k:IntKind}{a:Int}[hs:TyInt P s k][ht:TyInt P t .u64](hx:evE env x=some (.int k a))(h0:0≤a)(h1:a≤18446744073709551615):Ev P L env (.convert s t x) ty (.int .u64 a):=by
 have:=Ev.conv (P:=P) (L:=L) (ty:=ty) (s:=s) (t:=t) hx
 rwa [IntWalk.u64_in a ⟨h0,h1⟩] at this
end
end
section
section
variable {P:Program}{N:Nat}{env:Env}{L:LH}{K:Post}{ops:Array Oper}{rest:List Oper}{d i:Nat}{op:Op}{ty:TypeId}{pos:String}{af:Array Edge}{X:LH}{f:Nat→Value}{g:Nat→LH}{done:List Nat}{plan:List Stp}{pend:List PE}
def GO.c7(he:Ef P L env op ty (fun _ L'=>L' = X))(h:GO P N ops rest env X K):GO P N ops (⟨none,op,ty,pos,af,none⟩::rest) env L K:=GO.efu he (by rintro _ _ rfl;exact h)
def GO.efB(he:Ef P L env op ty (fun v L'=>∃b,v=f b∧L' = g b))(hd:d<N)(h:∀b,GO P N ops rest ((d,f b)::env) (g b) K):GO P N ops (⟨some d,op,ty,pos,af,none⟩::rest) env L K:=GO.ef he hd (by rintro _ _⟨b,rfl,rfl⟩;exact h b)
def GPW.a8(he:Ef P L env op ty (fun _ L'=>L' = X))(h:GPK P N ops done i plan pend [] env X K):GPW P N ops done (.ef i) plan none op ty pend env L K:=GPW.efu he (by rintro _ _ rfl;exact h)
def GPW.efB(he:Ef P L env op ty (fun v L'=>∃b,v=f b∧L' = g b))(hd:d<N)(h:∀b,GPK P N ops done i plan pend [] ((d,f b)::env) (g b) K):GPW P N ops done (.ef i) plan (some d) op ty pend env L K:=GPW.ef he hd (by rintro _ _⟨b,rfl,rfl⟩;exact h b)
end
class En (P:Program) (f:FuncId) (fn:outParam Func) (N:outParam Nat):Prop where
 en:Enters P f
 hf:P.funcs[f]? = some fn
 hN:fn.ntmps=N
def Tri.bd{P:Program}{f:FuncId}{fn:Func}{c:Code}{args:LV}{L:LH}{post:Value→LH→Prop}{rs:List ResultVar}{N:Nat}[e:En P f fn N](h:G P N c (env0 args 0) L (Ends P N rs post))(hb:fn.body=some c:=by exact rfl)(hr:fn.results=rs.toArray:=by exact rfl)(hn:args.length≤N:=by simp):Tri P f args.toArray L post:=Tri.body N e.en e.hf hb hr e.hN hn h
def KX.en{P:Program}{N:Nat}{env:Env}{L:LH}{rs:List ResultVar}{post:Value→LH→Prop}{vs:LV}{L' : LH}(h3:post (resV vs) L')(h1:ResOk P N env L rs vs:=by exact ResOk.tmps rfl)(h2:Ent L L':=by repeat (first|exact Ent.refl _|exact Ent.nil _|refine Ent.l9 ?_|refine Ent.trans Ent.drop ?_)):Ends P N rs post .ret env L:=KX.a8 h1 h2 h3
def GO.ca{P:Program}{N:Nat}{env:Env}{L:LH}{K:Post}{d:Nat}{f:FuncId}{xs:Array Operand}{ats:Array TypeId}{ty:TypeId}{vs:LV}{post:Value→LH→Prop}{a0:Array Oper}{rest:List Oper}{pos:String}{af:Array Edge}(c:Tri P f vs.toArray L post)(h:∀v L',post v L'→GO P N a0 rest ((d,v)::env) L' K)(hv:fD env xs.toList=some vs:=by exact rfl)(hd:d<N:=by decide):GO P N a0 (⟨some d,.call {callee:=.value (.func f),args:=xs,argTypes:=ats},ty,pos,af,none⟩::rest) env L K:=GO.ef (Ef.d9 c hv) hd h
def GO.cr{P:Program}{N:Nat}{env:Env}{L:LH}{K:Post}{d:Nat}{f:FuncId}{xs:Array Operand}{ats:Array TypeId}{ty:TypeId}{vs:LV}{a0:Array Oper}{rest:List Oper}{pos:String}{af:Array Edge}{a:Value}{M:LH}(c:Tri P f vs.toArray L (fun v L'=>v=a∧L' = M))(h:GO P N a0 rest ((d,a)::env) M K)(hv:fD env xs.toList=some vs:=by exact rfl)(hd:d<N:=by decide):GO P N a0 (⟨some d,.call {callee:=.value (.func f),args:=xs,argTypes:=ats},ty,pos,af,none⟩::rest) env L K:=GO.ef (Ef.d9 c hv) hd (by rintro _ _⟨rfl,rfl⟩;exact h)
def GPW.ca{P:Program}{N:Nat}{env:Env}{L:LH}{K:Post}{d:Nat}{f:FuncId}{xs:Array Operand}{ats:Array TypeId}{ty:TypeId}{vs:LV}{post:Value→LH→Prop}{a1:Array Oper}{done:List Nat}{plan:List Stp}{a0:List PE}{i:Nat}(c:Tri P f vs.toArray L post)(h:∀v L',post v L'→GPK P N a1 done i plan a0 [] ((d,v)::env) L' K)(hv:fD env xs.toList=some vs:=by exact rfl)(hd:d<N:=by decide):GPW P N a1 done (.ef i) plan (some d) (.call {callee:=.value (.func f),args:=xs,argTypes:=ats}) ty a0 env L K:=GPW.ef (Ef.d9 c hv) hd h
def GPW.cr{P:Program}{N:Nat}{env:Env}{L:LH}{K:Post}{d:Nat}{f:FuncId}{xs:Array Operand}{ats:Array TypeId}{ty:TypeId}{vs:LV}{a1:Array Oper}{done:List Nat}{plan:List Stp}{a0:List PE}{i:Nat}{a:Value}{M:LH}(c:Tri P f vs.toArray L (fun v L'=>v=a∧L' = M))(h:GPK P N a1 done i plan a0 [] ((d,a)::env) M K)(hv:fD env xs.toList=some vs:=by exact rfl)(hd:d<N:=by decide):GPW P N a1 done (.ef i) plan (some d) (.call {callee:=.value (.func f),args:=xs,argTypes:=ats}) ty a0 env L K:=GPW.ef (Ef.d9 c hv) hd (by rintro _ _⟨rfl,rfl⟩;exact h)
def G.dr{P:Program}{env:Env}{L:LH}{K:Post}(N id:Nat){l:List Oper}(plan:List Stp)[hK:NoP K](h:GP P N l.toArray [] plan [] env L K)(hm:P.follows .mixedOrders=true:=by exact mixed)(hp:(jq l.toArray [] plan && (plan.length == l.toArray.size) && Region.noSelect l.toArray && noDefer l.toArray)=true:=by kernel_rfl):G P N (.region id l.toArray true) env L K:=G.j0 plan hm hp h
def atSq(n:Nat):Code→Bool
 | .region i _ _=>Nat.beq i n
 | _=>false
def Ko(n:Nat):Code→Bool
 | .seq x _=>atSq n x
 | _=>false
def G.sn{P:Program}{N:Nat}{env:Env}{L:LH}{K:Post}(n:Nat){x y:Code}(h:G P N x env L (K.seq fun a0 L'=>G P N y a0 L' K))(hb:atSq n x=false:=by rfl):G P N (.seq x y) env L K:=G.seq h
def G.sm{P:Program}{N:Nat}{env:Env}{L:LH}{K:Post}(n:Nat){x y:Code}(h:G P N x env L (K.seq fun a0 L'=>G P N y a0 L' K))(hb:Ko n x=false:=by rfl):G P N (.seq x y) env L K:=G.seq h
abbrev rtQ(a:Value)(M:LH):Value→LH→Prop:=fun v L'=>v=a∧L' = M
structure Hid (ψ:Prop):Prop where
 out:ψ
def krStd0{φ:Prop}(h:φ:=by kernel_rfl):φ:=h
def ae{φ:Prop}(h:φ:=by decide):φ:=h
def ah{φ:Prop}(h:φ:=by repeat (first|exact Ent.refl _|exact Ent.nil _|refine Ent.l9 ?_|refine Ent.trans Ent.drop ?_)):φ:=h
def aA{φ:Prop}(h:φ:=by exact ResOk.tmps rfl):φ:=h
def cc{φ:Prop}(h:φ:=by simp):φ:=h
def aQ{φ:Prop}(h:φ:=by rfl):φ:=h
def gJ{φ:Prop}(h:φ:=by simp;omega):φ:=h
def kg{φ:Prop}(h:φ:=by dsimp only;omega):φ:=h
def dd{φ:Prop}(h:φ:=by repeat (first|exact Ent.refl _|apply Ent.take)):φ:=h
def ab{φ:Prop}(h:φ:=by omega):φ:=h
def bh(i:Nat):((i+1:Nat):Int)=(i:Int)+1:=by omega
def tC{α:Type}{p:α→Prop}:∀x∈([]:List α),p x:=fun _ h=>absurd h List.not_mem_nil
abbrev ax(b:Nat):Value:=.pointer (some ⟨b,0,none⟩)
abbrev ac(x:Int):Value:=.int .i64 x
abbrev ag(a:OA)(n c:Nat):Value:=.slice a n c
abbrev aU(l:LV):Value:=.agg l.toArray
def ep:type_of% @Array.length_toList:=@Array.length_toList
def kh:type_of% @Bool.and_eq_true:=@Bool.and_eq_true
def fY:type_of% @Bool.false_eq_true:=@Bool.false_eq_true
def cS:type_of% @Bool.false_ne_true:=@Bool.false_ne_true
def je:type_of% @Int.ediv_nonneg:=@Int.ediv_nonneg
def dC:type_of% @Int.emod_lt_of_pos:=@Int.emod_lt_of_pos
def ed:type_of% @Int.emod_nonneg:=@Int.emod_nonneg
def dG:type_of% @Int.fdiv_eq_ediv_of_nonneg:=@Int.fdiv_eq_ediv_of_nonneg
def bq:type_of% @Int.le_refl:=@Int.le_refl
def fe:type_of% @Int.mul_le_mul_of_nonneg_right:=@Int.mul_le_mul_of_nonneg_right
def aY:type_of% @Int.toNat_natCast:=@Int.toNat_natCast
def aB:type_of% @List.append_assoc:=@List.append_assoc
def aH:type_of% @List.append_nil:=@List.append_nil
def al{α:Type _}{a:α}{b c:List α}:(a::b)++c=a::(b++c):=rfl
def bV:type_of% @List.drop_eq_getElem_cons:=@List.drop_eq_getElem_cons
def bQ:type_of% @List.drop_of_length_le:=@List.drop_of_length_le
def aZ:type_of% @List.eq_nil_of_length_eq_zero:=@List.eq_nil_of_length_eq_zero
def fM:type_of% @List.eq_of_mem_replicate:=@List.eq_of_mem_replicate
def fH:type_of% @List.ext_getElem:=@List.ext_getElem
def ib:type_of% @List.ext_getElem?:=@List.ext_getElem?
def cI:type_of% @List.filter_append:=@List.filter_append
def dD:type_of% @List.filter_cons_of_neg:=@List.filter_cons_of_neg
def cB:type_of% @List.filter_cons_of_pos:=@List.filter_cons_of_pos
def cl:type_of% @List.flatMap_append:=@List.flatMap_append
def aO:type_of% @List.flatMap_cons:=@List.flatMap_cons
def cW:type_of% @List.flatMap_nil:=@List.flatMap_nil
def cF:type_of% @List.foldl_append:=@List.foldl_append
def eO:type_of% @List.foldl_cons:=@List.foldl_cons
def dw:type_of% @List.getElem_append_left:=@List.getElem_append_left
def cM:type_of% @List.getElem_append_right:=@List.getElem_append_right
def fu:type_of% @List.getElem_drop:=@List.getElem_drop
def fh:type_of% @List.getElem_inj:=@List.getElem_inj
def eC:type_of% @List.getElem_map:=@List.getElem_map
def bR:type_of% @List.getElem_mem:=@List.getElem_mem
def fG:type_of% @List.getElem_set:=@List.getElem_set
def aj:type_of% @List.length_append:=@List.length_append
def aM:type_of% @List.length_cons:=@List.length_cons
def bY:type_of% @List.length_drop:=@List.length_drop
def dv:type_of% @List.length_filter_le:=@List.length_filter_le
def an:type_of% @List.length_map:=@List.length_map
def bz:type_of% @List.length_nil:=@List.length_nil
def bH:type_of% @List.length_set:=@List.length_set
def aI:type_of% @List.length_singleton:=@List.length_singleton
def aK:type_of% @List.length_take:=@List.length_take
def cx:type_of% @List.lookup_cons:=@List.lookup_cons
def aJ:type_of% @List.map_append:=@List.map_append
def dI:type_of% @List.map_congr_left:=@List.map_congr_left
def aF:type_of% @List.map_cons:=@List.map_cons
def cX:type_of% @List.map_map:=@List.map_map
def bG:type_of% @List.map_nil:=@List.map_nil
def bM:type_of% @List.mem_append_left:=@List.mem_append_left
def bK:type_of% @List.mem_append_right:=@List.mem_append_right
def dJ:type_of% @List.mem_cons:=@List.mem_cons
def au:type_of% @List.mem_cons_of_mem:=@List.mem_cons_of_mem
def av:type_of% @List.mem_cons_self:=@List.mem_cons_self
def alStd0List_mem_map_of_mem:type_of% @List.mem_map_of_mem:=@List.mem_map_of_mem
def cG:type_of% @List.mem_of_mem_drop:=@List.mem_of_mem_drop
def bF:type_of% @List.mem_of_mem_take:=@List.mem_of_mem_take
def dj:type_of% @List.mem_or_eq_of_mem_set:=@List.mem_or_eq_of_mem_set
def cT:type_of% @List.mem_singleton_self:=@List.mem_singleton_self
def ak{α:Type _}{b:List α}:[]++b=b:=rfl
def ia:type_of% @List.nodup_append:=@List.nodup_append
def fm:type_of% @List.nodup_cons:=@List.nodup_cons
def dY:type_of% @List.nodup_nil:=@List.nodup_nil
def ay:type_of% @List.not_mem_nil:=@List.not_mem_nil
def eG:type_of% @List.pairwise_cons:=@List.pairwise_cons
def bB:type_of% @List.pairwise_singleton:=@List.pairwise_singleton
def dX:type_of% @List.perm_middle:=@List.perm_middle
def fP:type_of% @List.range_succ:=@List.range_succ
def eN:type_of% @List.set_append_right:=@List.set_append_right
def fX:type_of% @List.set_cons_zero:=@List.set_cons_zero
def hZ:type_of% @List.size_toArray:=@List.size_toArray
def ec:type_of% @List.sum_append:=@List.sum_append
def cq:type_of% @List.sum_cons:=@List.sum_cons
def cK:type_of% @List.take_append_drop:=@List.take_append_drop
def cC:type_of% @List.take_length:=@List.take_length
def aD:type_of% @List.take_of_length_le:=@List.take_of_length_le
def az:type_of% @List.take_succ_eq_append_getElem:=@List.take_succ_eq_append_getElem
def aR:type_of% @List.take_zero:=@List.take_zero
def dS:type_of% @Nat.add_assoc:=@Nat.add_assoc
def dc:type_of% @Nat.add_mul:=@Nat.add_mul
def eA:type_of% @Nat.add_zero:=@Nat.add_zero
def fO:type_of% @Nat.div_add_mod:=@Nat.div_add_mod
def eM:type_of% @Nat.div_lt_iff_lt_mul:=@Nat.div_lt_iff_lt_mul
def dW:type_of% @Nat.le_add_right:=@Nat.le_add_right
def aT:type_of% @Nat.le_of_ble_eq_true:=@Nat.le_of_ble_eq_true
def aq:type_of% @Nat.le_refl:=@Nat.le_refl
def aP:type_of% @Nat.le_trans:=@Nat.le_trans
def fc:type_of% @Nat.lt_or_ge:=@Nat.lt_or_ge
def dp:type_of% @Nat.min_eq_left:=@Nat.min_eq_left
def ez:type_of% @Nat.mod_eq_of_lt:=@Nat.mod_eq_of_lt
def dU:type_of% @Nat.mod_lt:=@Nat.mod_lt
def ft:type_of% @Nat.mul_comm:=@Nat.mul_comm
def bj:type_of% @Nat.mul_le_mul_right:=@Nat.mul_le_mul_right
def fN:type_of% @Nat.not_lt_zero:=@Nat.not_lt_zero
def fW:type_of% @Nat.succ_mul:=@Nat.succ_mul
def du:type_of% @Nat.zero_add:=@Nat.zero_add
def aw:type_of% @Nat.zero_le:=@Nat.zero_le
def fg:type_of% @Option.getD_none:=@Option.getD_none
def fj:type_of% @Option.map_none:=@Option.map_none
def eK:type_of% @Option.map_some:=@Option.map_some
def aC{φ:Prop}(h:φ:=by repeat (first|exact EnvSub.nil _|refine EnvSub.cons rfl ?_)):φ:=h
def yE{φ:Prop}(h:φ:=by first|((with_reducible apply Ev.u6);exact Ev.move rfl)|((with_reducible apply Ev.p5);exact Ev.assign rfl)|((with_reducible apply Ev.u0);first|exact Ev.n5 rfl rfl|exact Ev.m8 rfl rfl)|((with_reducible apply Ev.n9);exact Ev.extract rfl rfl)|((with_reducible apply Ev.w6);exact Ev.nilCheck rfl)|((with_reducible apply Ev.o9);exact Ev.n7 rfl rfl ab ab)|((with_reducible apply Ev.w7);first|exact Ev.eql rfl rfl|exact Ev.neq rfl rfl|exact Ev.lss rfl rfl|exact Ev.leq rfl rfl|exact Ev.gtr rfl rfl|exact Ev.geq rfl rfl|exact Ev.add rfl rfl ab ab|exact Ev.sub rfl rfl ab ab|exact Ev.mul rfl rfl ab ab|exact Ev.quo rfl rfl ab ab ab|exact Ev.x6 rfl rfl ab ab ab|exact Ev.rem rfl rfl ab ab|exact Ev.w9 rfl rfl ab|exact Ev.t7 rfl rfl|exact Ev.r8 rfl rfl|exact Ev.o8 rfl rfl|exact Ev.v8 rfl rfl|exact Ev.y7 rfl rfl|exact Ev.y6 rfl rfl|exact Ev.t6 rfl rfl|exact Ev.r7 rfl rfl|exact Ev.w5 rfl rfl aQ aQ|exact Ev.w0 rfl rfl aQ aQ)|((with_reducible apply Ev.y8);first|exact Ev.x8 rfl|exact Ev.x9 rfl|exact Ev.not rfl|exact Ev.o0 rfl|exact Ev.neg rfl ab ab)|((with_reducible apply Ev.p8);first|exact Ev.build rfl rfl|exact Ev.t8 rfl rfl)|((with_reducible apply Ev.u7);exact Ev.makeFunc rfl rfl)|((with_reducible apply Ev.p7);first|exact Ev.p6 rfl rfl ab ab|exact Ev.m9 rfl rfl ab ab|exact Ev.o7 rfl rfl rfl ab ab ab|exact Ev.o6 rfl rfl rfl ab ab ab)|((with_reducible apply Ev.u9);first|exact Ev.w4 rfl|exact Ev.r9 rfl|exact Ev.min2 rfl rfl|exact Ev.max2 rfl rfl)|((with_reducible apply Ev.l0);first|exact Ev.fieldAddr rfl|exact Ev.d9 rfl (by first|omega|exact aT rfl)|exact Ev.f8 rfl)|((with_reducible apply Ev.l8);first|exact Ev.k9 rfl ab ab|exact Ev.l7 rfl ab ab|exact Ev.k7 rfl ab ab|exact Ev.conv rfl|exact Ev.k8 rfl (by first|rfl|omega|(simp;first|done|omega)))):φ:=h
def yD{φ:Prop}(h:φ:=by first|((with_reducible apply Ev.n8);first|exact Ev.c8 rfl rfl|exact Ev.f7 rfl (by first|omega|exact aT rfl) ae rfl|exact Ev.d7 rfl aQ|exact Ev.d8 rfl (by first|omega|exact aT rfl)|exact Ev.c9 rfl rfl)|((with_reducible apply Ev.j6);first|exact Ev.indexAddr rfl rfl ab (by first|omega|exact aT rfl) (by first|omega|exact aT rfl)|exact Ev.l6 rfl rfl ab ab|exact Ev.l9 rfl rfl (by first|omega|exact aT rfl) ab ab)|((with_reducible apply Ev.l0);first|exact Ev.fieldAddr rfl|exact Ev.d9 rfl (by first|omega|exact aT rfl)|exact Ev.f8 rfl)|((with_reducible apply Ev.l8);first|exact Ev.k9 rfl ab ab|exact Ev.l7 rfl ab ab|exact Ev.k7 rfl ab ab|exact Ev.conv rfl|exact Ev.k8 rfl (by first|rfl|omega|(simp;first|done|omega)))):φ:=h
def yC{φ:Prop}(h:φ:=by first|((with_reducible apply Ev.n8);first|exact Ev.c8 rfl rfl|exact Ev.f7 rfl (by first|omega|exact aT rfl) ae rfl|exact Ev.d7 rfl aQ|exact Ev.d8 rfl (by first|omega|exact aT rfl)|exact Ev.c9 rfl rfl)|((with_reducible apply Ev.j6);first|exact Ev.indexAddr rfl rfl ab (by first|omega|exact aT rfl) (by first|omega|exact aT rfl)|exact Ev.j5 rfl rfl ab ab|exact Ev.l6 rfl rfl ab ab|exact Ev.l9 rfl rfl (by first|omega|exact aT rfl) ab ab)|((with_reducible apply Ev.l0);first|exact Ev.fieldAddr rfl|exact Ev.d9 rfl (by first|omega|exact aT rfl)|exact Ev.f8 rfl)|((with_reducible apply Ev.l8);first|exact Ev.k9 rfl ab ab|exact Ev.l7 rfl ab ab|exact Ev.k7 rfl ab ab|exact Ev.conv rfl|exact Ev.k8 rfl (by first|rfl|omega|(simp;first|done|omega)))):φ:=h
def yF{φ:Prop}(h:φ:=by first|exact yC|exact yE):φ:=h
def Kr{φ ψ:Prop}(k:ψ)(h:Hid ψ→φ:=by intro k;(repeat1' (first|((with_reducible apply GO.a8);first|refine GO.ev yF ae ?_|refine GO.efB (Ef.j8 rfl) ae ?_|refine GO.efB (Ef.k9 rfl rfl) ae ?_|refine GO.efB (Ef.alloc) ae ?_|refine GO.efB (Ef.lit rfl rfl ae rfl) ae ?_)|((with_reducible apply GO.d8);first|refine GO.f8 rfl rfl ae ?_|refine GO.f9 rfl rfl ae ?_|refine GO.c9 rfl rfl ae ?_)|with_reducible apply GO.nil|((with_reducible apply GO.g8);first|refine GO.c7 (Ef.j5 rfl rfl (by first|omega|exact aT rfl)) ?_|refine GO.c7 (Ef.j0 rfl rfl rfl rfl) ?_|refine GO.c7 (Ef.g9 rfl rfl aQ aQ (by first|exact EncC.one _|simp[Value.oneCell'])) ?_|refine GO.c7 (Ef.g8 rfl rfl aQ rfl (by first|exact EncC.one _|simp[Value.oneCell'])) ?_)|((with_reducible apply GP.d9);first|refine GP.go rfl ?_|refine GP.d7 rfl rfl rfl ae ?_|refine GP.d8 rfl rfl rfl ae ?_|refine GP.c9 rfl rfl rfl ae ?_)|((with_reducible apply GPW.c8);first|refine GPW.evP yE ae ?_|refine GPW.evL yD ae ?_|refine GPW.evP (by((with_reducible apply Ev.j6);exact Ev.j5 rfl rfl ab ab)) ae ?_)|with_reducible apply GP.nil|((with_reducible apply GPW.c9);first|refine GPW.efB (Ef.j8 rfl) ae ?_|refine GPW.efB (Ef.k9 rfl rfl) ae ?_|refine GPW.efB (Ef.alloc) ae ?_|refine GPW.efB (Ef.lit rfl rfl ae rfl) ae ?_)|((with_reducible apply GPW.c7);first|refine GPW.a8 (Ef.j5 rfl rfl (by first|omega|exact aT rfl)) ?_|refine GPW.a8 (Ef.j0 rfl rfl rfl rfl) ?_|refine GPW.a8 (Ef.g9 rfl rfl aQ aQ (by first|exact EncC.one _|simp[Value.oneCell'])) ?_|refine GPW.a8 (Ef.g8 rfl rfl aQ rfl (by first|exact EncC.one _|simp[Value.oneCell'])) ?_)|with_reducible apply GPK.nil|with_reducible apply CB.tt|with_reducible apply CB.ff|with_reducible refine CB.pos ab ?_|with_reducible refine CB.neg ab ?_|with_reducible refine CB.pos (by simp;first|done|omega) ?_|with_reducible refine CB.neg (by simp;first|done|omega) ?_|with_reducible apply GB.tt|with_reducible apply GB.ff|with_reducible refine GB.pos ab ?_|with_reducible refine GB.neg ab ?_|with_reducible refine GB.pos (by simp;first|done|omega) ?_|with_reducible refine GB.neg (by simp;first|done|omega) ?_|with_reducible refine KX.d9 ?_|with_reducible refine KX.d7 ?_|with_reducible refine KX.f9 ?_|with_reducible refine KX.g8 ?_|with_reducible refine KX.d8 ?_|with_reducible refine KX.f8 ?_|with_reducible refine KX.c7 ?_|with_reducible refine KX.c9 ae ?_|with_reducible apply G.block|with_reducible apply G.region|with_reducible apply G.skip|with_reducible apply G.exit|with_reducible apply G.ret|refine G.cond rfl ?_));exact Hid.out k):φ:=h ⟨k⟩
def run{φ ψ:Prop}(k:ψ)(h:Hid ψ→φ:=by intro k;(repeat1' (first|refine Kr ?_|((with_reducible apply GPK.a8);first|refine GPK.drop rfl ?_|refine GPK.keep yC ?_)|with_reducible apply G.seq));exact Hid.out k):φ:=h ⟨k⟩
