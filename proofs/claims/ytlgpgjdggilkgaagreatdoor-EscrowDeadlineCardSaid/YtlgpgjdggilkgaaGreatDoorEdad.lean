/- Lemmas. -/
import Derived.Test.YtlgpgjdggilkgaaGreatDoorEdac
import Derived.Laws.BytesArg
import Derived.Laws.Strings
import Derived.Laws.MakeOwn
set_option linter.all false
namespace Go.V
section
section
variable {P:Program}{N:Nat}{env:Env}{L:Ι}{Ρ:F8}
def Β.c8{c:Code}{φ:Prop}(h:∀θ R w,Sat θ (L++R) w->φ)(k:φ->Β P N c env L Ρ):Β P N c env L Ρ:=λΔ θ aa a w hr i=>let ⟨_,_,_,s⟩:=i;k (h θ _ w s) Δ θ aa a w hr i
def Y.g9{A:Array Oper}{l:List Oper}{φ:Prop}(h:∀θ R w,Sat θ (L++R) w->φ)(k:φ->Y P N A l env L Ρ):Y P N A l env L Ρ:=λΔ θ aa a w hr i=>let ⟨_,_,_,s⟩:=i;k (h θ _ w s) Δ θ aa a w hr i
def Β.cM{c:Code}{Ε : Ι}(T:E L Ε)(h:Β P N c env Ε Ρ):Β P N c env L Ρ:=h.Q2 (On.refl _) T
def Y.cM{A:Array Oper}{l:List Oper}{Ε : Ι}(T:E L Ε)(h:Y P N A l env Ε Ρ):Y P N A l env L Ρ:=h.Q2 (On.refl _) T
def GP.cM{J:Array Oper}{done:List Nat}{y5:List K3}{A:List PE}{Ε : Ι}(T:E L Ε)(h:GP P N J done y5 A env Ε Ρ):GP P N J done y5 A env L Ρ:=λhK hp hs a2 θ aa a w S i a3 a4=>h hK hp hs a2 θ aa a w S (i.less (On.refl _) T) a3 a4
def δ.cM{a2:Array Oper}{done:List Nat}{y5:List K3}{A:List PE}{Ε : Ι}{s:K3}{J:Option Tmp}{op:Op}{ty:TypeId}(T:E L Ε)(h:δ P N a2 done s y5 J op ty A env Ε Ρ):δ P N a2 done s y5 J op ty A env L Ρ:=λpos af g I Q=>GP.cM T (h pos af g I Q)
theorem Β.c7{α:Type}{x y:Code}(Inv:α->Prop)(e:α->Env)(l:α->Ι)(h:Β P N x env L (Ρ.seq λA Ε=>∃g,Inv g/\On A (e g)/\E Ε (l g)))(h' : ∀g,Inv g->Β P N y (e g) (l g) Ρ):Β P N (.seq x y) env L Ρ :=
 Β.mid _ h (by rintro A Ε ⟨g,I,Q,h3⟩;exact(h' g I).Q2 Q h3)
def Β.less{c:Code}{A : Env}(he:On env A)(h:Β P N c A L Ρ):Β P N c env L Ρ:=h.Q2 he (E.refl _)
def Β.c9{α:Type}{c:Code}{f:α->Ι}(h:∀x,Β P N c env (f x++L) Ρ):Β P N c env (hex (λx=>cw (f x))::L) Ρ:=Β.open_ (φ:=λ_=>True) (Ε:=λx=>f x++L) (λθ R w s =>
 let ⟨x,s1⟩:=Sat.Te (show Sat θ (hex (λx=>cw (f x))::(L++R)) w from s);⟨x,trivial,by rw[List.append_assoc];exact s1.Qd⟩) (λx _=>h x)
def Y.c8{α:Type}{A:Array Oper}{l:List Oper}{f:α->Ι}(h:∀x,Y P N A l env (f x++L) Ρ):Y P N A l env (hex (λx=>cw (f x))::L) Ρ:=Y.open_ (φ:=λ_=>True) (Ε:=λx=>f x++L) (λθ R w s =>
 let ⟨x,s1⟩:=Sat.Te (show Sat θ (hex (λx=>cw (f x))::(L++R)) w from s);⟨x,trivial,by rw[List.append_assoc];exact s1.Qd⟩) (λx _=>h x)
def E.f9{α:Type}{f:α->Ι}{R:Ι}(x:α)(h:E L (f x++R)):E L (hex (λx=>cw (f x))::R):=λθ R' w s=>by
 have s1:=h θ R' w s;rw[List.append_assoc] at s1;exact Sat.d8 (f:=λx=>cw (f x)) x (Sat.a8 s1)
def E.pure{φ:Prop}{Ε : Ι}(hφ:φ)(h:E L Ε):E L (ee φ::Ε):=λθ R w s=>Sat.UH (h θ R w s) hφ
def Β.d7{c:Code}{φ:Prop}(h:φ->Β P N c env L Ρ):Β P N c env (ee φ::L) Ρ:=Β.open_ (φ:=λ_:Unit=>φ) (Ε:=λ_=>L) (λθ R w s=>⟨(),Sat.Td (show Sat θ (ee φ::(L++R)) w from s),s.tail⟩) (λ_=>h)
def Y.d7{A:Array Oper}{l:List Oper}{φ:Prop}(h:φ->Y P N A l env L Ρ):Y P N A l env (ee φ::L) Ρ:=Y.open_ (φ:=λ_:Unit=>φ) (Ε:=λ_=>L) (λθ R w s=>⟨(),Sat.Td (show Sat θ (ee φ::(L++R)) w from s),s.tail⟩) (λ_=>h)
def E.dup{Φ:HP}(hA:Vd Φ):E (Φ::L) (Φ::Φ::L):=λ_ _ _ s=>Sat.dup hA s
def E.NZ{α:Type}{Η:α->χ}{sz ζ:Nat}{ad:OA}{cap:Nat}{G:List α}:E (μ Η sz ζ ad cap G::L) (τ Η sz ad G::L):=λ_ _ _ s=>Sat.NZ s
def E.d9{α:Type}{Η:α->χ}{sz ζ b:Nat}{cs:χ}{G:List α}{n:Nat}(hc:cs=G.flatMap Η)(hn:G.length=n)(hs:∀x∈G,(Η x).length=sz)(hm:n<=9223372036854775807):E (obj b ζ cs::L) (μ Η sz ζ (some ⟨b,0,none⟩) n G::L):=λθ R w s=>by
 subst hc hn;exact Sat.Rm (show Sat θ (sh b (.cells (G.flatMap Η).toArray ζ (0,0))::(L++R)) w from s) hs (Nat.le_refl _) (by simp only[maxLen];omega) (by simp[dd hs]) (List.take_of_length_le (by rw[dd hs];exact Nat.le_refl _))
def E.c8{α:Type}(Η:α->χ)(sz ζ:Nat):E L (μ Η sz ζ none 0 []::L):=λ_ _ _ s=>Sat.d7 Η sz ζ s
def E.f7{α:Type}(Η:α->χ)(sz:Nat)(ad:OA):E L (τ Η sz ad []::L):=λθ R w s=>by
 obtain⟨ok,ι,h',a,b1,c,Ξ⟩:=s;exact⟨ok,ι,h',a,b1,c,Hp.emp,Hp.emp,h',Hp.a8 _,Hp.c7 _,Hp.a8 _,Hp.sub.refl _,⟨by simp,.inl rfl⟩,Ξ⟩
def oI{α:Type}{Η:α->χ}{sz:Nat}{G:List α}[h:F5 L none α Η sz G]:∀θ R w,Sat θ (L++R) w->G=[]:=λθ R w s=>by
 rcases (h.rd θ R w s).2 with h|⟨a,ha,_⟩
 .exact h
 .cases ha
def mS{α:Type}{Η:α->χ}{sz ζ:Nat}{ad:OA}{cap:Nat}{G:List α}{R' : Ι}[h:RH L ad α Η sz ζ cap G R']:∀θ R w,Sat θ (L++R) w->G.length<=cap/\cap<=9223372036854775807:=λθ R w s=>by
 have:=(s.perm (h.perm.append_right R)).Qw
 simp only[maxLen] at this;exact⟨this.2.1,by omega⟩
def η{α:Type}(f:α->HP)(l:List α):HP:=λι _=>∀x∈l,f x ι Hp.emp
theorem E.c7{α:Type}(f:α->HP):E L (η f []::L):=λθ R w s=>by
 obtain⟨ok,ι,h',a,b1,c,Ξ⟩:=s;exact⟨ok,ι,h',a,b1,c,Hp.emp,Hp.emp,h',Hp.a8 _,Hp.c7 _,Hp.a8 _,Hp.sub.refl _,(by intro x M;cases M),Ξ⟩
structure Og (Φ:HP):Prop where
 QM:Vd Φ
 mono:∀ι ι' h,Hp.sub ι ι'->Φ ι h->Φ ι' h
def cT{α:Type}(Η:α->χ)(sz:Nat)(ad:OA)(G:List α):Og (τ Η sz ad G):=⟨lC Η sz ad G,λι ι' h hs hi=>by
 obtain⟨I,Q⟩:=hi;refine⟨I,?_⟩;rcases Q with Q|⟨g,off,A,ζ,fz,f1,f2,f3⟩
 .exact .inl Q
 .exact .inr ⟨g,off,A,ζ,fz,f1,hs _ _ f2,f3⟩⟩
def E.g9{α:Type}{f:α->HP}{l l' : List α}(h:∀x∈l',x∈l):E (η f l::L) (η f l'::L):=λθ R w s=>by
 obtain⟨ok,ι,h',a,b1,c,G6,E4,D5,d1,d2,d3,d4,d5,d6⟩:=s;exact⟨ok,ι,h',a,b1,c,G6,E4,D5,d1,d2,d3,d4,λx M=>d5 x (h x M),d6⟩
def E.j5{α:Type}{f:α->HP}(hf:∀x,Og (f x)){x:α}{l:List α}:E (f x::η f l::L) (η f (x::l)::L):=λθ R w s=>by
 obtain⟨ok,ι,h',a,b1,c,RU,E4,D5,d1,d2,d3,d4,d5,Vc,h₃,h₄,e1,e2,e3,e4,e5,e6⟩:=s;refine⟨ok,ι,h',a,b1,c,ι,Hp.emp,h₄,Hp.sub.refl _,Hp.c7 _,Hp.a8 _,e4.trans d4,?_,e6⟩;intro y U;rcases L7 U with rfl|U
 .exact(hf _).mono _ _ _ d1 ((hf _).QM _ _ d5)
 .exact(hf _).mono _ _ _ e1 (e5 y U)
def E.c9{α:Type}{f:α->HP}(hf:∀x,Og (f x)){l l' : List α}:E (η f l::η f l'::L) (η f (l++l')::L):=λθ R w s=>by
 obtain⟨ok,ι,h',a,b1,c,RU,E4,D5,d1,d2,d3,d4,d5,Vc,h₃,h₄,e1,e2,e3,e4,e5,e6⟩:=s;refine⟨ok,ι,h',a,b1,c,ι,Hp.emp,h₄,Hp.sub.refl _,Hp.c7 _,Hp.a8 _,e4.trans d4,?_,e6⟩;intro y U;rcases J4 U with U|U
 .exact(hf _).mono _ _ _ d1 (d5 y U)
 .exact(hf _).mono _ _ _ e1 (e5 y U)
def E.d7{α:Type}{f:α->HP}(hf:∀x,Og (f x)){x:α}:E (f x::L) (η f [x]::L):=λθ R w s=>by
 obtain⟨ok,ι,h',a,b1,c,RU,E4,D5,d1,d2,d3,d4,d5,d6⟩:=s;refine⟨ok,ι,h',a,b1,c,RU,E4,D5,d1,d2,d3,d4,?_,d6⟩;intro y U;simp at U;subst U;exact(hf _).QM _ _ d5
def E.d8{α:Type}{f:α->HP}{l:List α}{x:α}(h:x∈l):E (η f l::L) (f x::η f l::L):=λθ R w s=>by
 obtain⟨ok,ι,h',a,b1,c,RU,E4,D5,d1,d2,d3,d4,d5,d6⟩:=s;exact⟨ok,ι,h',a,b1,c,RU,Hp.emp,h',d1,Hp.c7 _,Hp.a8 _,Hp.sub.refl _,d5 x h,RU,E4,D5,d1,d2,d3,d4,d5,d6⟩
def E.RI{α:Type}{Η:α->χ}{sz ζ:Nat}(ad:OA){cap:Nat}{G:List α}{R:Ι}[h:RH L ad α Η sz ζ cap G R]:E L (τ Η sz ad G::R):=(E.perm h.perm).trans E.NZ
def E.at{Φ:HP}{R Ε : Ι}[h:TF L Φ R](hr:E (Φ::R) Ε):E L Ε:=(E.perm h.perm).trans hr
def E.swap{Φ hx:HP}:E (Φ::hx::L) (hx::Φ::L):=E.perm (List.Perm.swap _ _ _)
theorem E.a8{Φ:HP}{Ε : Ι}(h:E L Ε):E (Φ::L) (Φ::Ε):=h.cons
end
def C9.cell{P:Program}{N:Nat}{env:Env}{L G1:Ι}{rs:List ResultVar}{vs cs:χ}{x b an n:Nat}{t:TypeId}[ht:Nw P t n][hp:Pq L b an cs G1](h:env.lookup x=some (.pointer (some ⟨b,0,none⟩)))(hn:cs.length=n)(hr:C9 P N env L rs vs):C9 P N env L (.cell x t::rs) (.agg cs.toArray::vs):=by
 intro θ R a w ea s g I Q;have h3:=ea.at_ x _ h;have hb:=s.TD hp.perm;have T:=run_loadCells_list (P:=P) w ⟨b,0,none⟩ cs (λj v hv=>by rw[fV,ej hb];simpa using hv);rw[hn] at T;simp[List.mapM_cons,hr θ R a w ea s g I Q,Q,h3,asAddr,loadVar,ht.run,Nw.QL,T]
theorem C9.a8{P:Program}{N:Nat}{env:Env}{L G1:Ι}{rs:List ResultVar}{vs:χ}{v:Value}{x b an:Nat}{t:TypeId}[ht:L8 P t][hp:Pq L b an [v] G1](h:env.lookup x=some (.pointer (some ⟨b,0,none⟩)))(hr:C9 P N env L rs vs):C9 P N env L (.cell x t::rs) (v::vs):=by
 intro θ R a w ea s g I Q;have h3:=ea.at_ x _ h;have hb:=s.TD hp.perm;simp[List.mapM_cons,hr θ R a w ea s g I Q,Q,h3,asAddr,loadVar,ht.run,ej hb]
def h2{α:Type}(f:α->HP)(l:List α):HP:=cw (l.map f)
def E.j6{α:Type}(f:α->HP){L:Ι}:E L (h2 f []::L):=λ_ _ _ s=>Sat.a8 (Φ:=[]) s
def E.l0{α:Type}{f:α->HP}{x:α}{l:List α}{L:Ι}:E (f x::h2 f l::L) (h2 f (l++[x])::L):=λθ R w s=>by
 have s1:Sat θ (h2 f l::f x::(L++R)) w:=s.perm (List.Perm.swap _ _ _);have s2:=Sat.Qd s1;refine Sat.a8 (Φ:=(l++[x]).map f) ?_;simpa using s2
def E.Vh{α:Type}{f:α->HP}{x:α}{l:List α}{L:Ι}:E (f x::h2 f l::L) (h2 f (x::l)::L):=λθ R w s=>by
 have s1:Sat θ (h2 f l::f x::(L++R)) w:=s.perm (List.Perm.swap _ _ _);have s2:=Sat.Qd s1;refine Sat.a8 (Φ:=(x::l).map f) ?_;exact s2.perm List.perm_middle
def E.Vi{α:Type}{f:α->HP}{x:α}{l:List α}{L:Ι}:E (h2 f (x::l)::L) (f x::h2 f l::L):=λθ R w s=>by
 have s2:Sat θ (f x::(l.map f++(L++R))) w:=Sat.Qd (Φ:=(x::l).map f) s;have s3:Sat θ (l.map f++(f x::(L++R))) w:=s2.perm List.perm_middle.symm;exact(Sat.a8 (Φ:=l.map f) s3).perm (List.Perm.swap _ _ _)
def eU(k:IntKind)(x:Int):χ:=[.int k x]
def iq(k:IntKind)(x:Int):∀u∈eU k x,u.oneCell' = true:=by simp[eU,Value.oneCell']
def ox{α:Type}(f:α->Value)(G:List α):G.flatMap (λx=>[f x])=G.map f:=by
 induction G with
 | nil=>rfl
 | cons x G ih=>simp[ih]
end
section
class WZ (P:Program) (an:Nat):Prop where
 under:P.underlying an=some .bool
section
variable {P:Program}{env:Env}{L:Ι}{ty:TypeId}
def qe{t:TypeId}{a b:Bool}{w:World}{n:Nat}(he:P.underlying t=some .bool):(Op.equalIn (n+1) t (.bool a) (.bool b)).run P w=.ok (a == b) w:=by
 simp[Op.equalIn,run_underlying he]
def Z.z6{t yt:TypeId}{x y:Operand}{φ ψ:Prop}[Decidable φ][Decidable ψ][ht:WZ P t](M:bG env x=some (.bool (dB φ)))(U:bG env y=some (.bool (dB ψ))):Z P L env (.binOp .neq t x y yt) ty (.bool (dB (¬(φ↔ψ)))) :=
 Z.mk (λ_ _ _ w ea _ _ _ _ _=>by
  have I:=kG (P:=P) (w:=w) (λn=>qe (n:=n) (a:=dB φ) (b:=dB ψ) ht.under)
  have Q:(!(dB φ == dB ψ))=dB (¬(φ↔ψ)):=by
   rw[dF,dF,dF];by_cases h:φ<;>by_cases h' : ψ<;>simp[h,h']
  simp[execOp,aI ea M,aI ea U,eqGuard,binOp,I,Q])
def Z.z7{t yt:TypeId}{x y:Operand}{φ ψ:Prop}[Decidable φ][Decidable ψ][ht:WZ P t](M:bG env x=some (.bool (dB φ)))(U:bG env y=some (.bool (dB ψ))):Z P L env (.binOp .eql t x y yt) ty (.bool (dB (φ↔ψ))) :=
 Z.mk (λ_ _ _ w ea _ _ _ _ _=>by
  have I:=kG (P:=P) (w:=w) (λn=>qe (n:=n) (a:=dB φ) (b:=dB ψ) ht.under)
  have Q:(dB φ == dB ψ)=dB (φ↔ψ):=by
   rw[dF,dF,dF];by_cases h:φ<;>by_cases h' : ψ<;>simp[h,h']
  simp[execOp,aI ea M,aI ea U,eqGuard,binOp,I,Q])
def Aj(a b:ByteArray):(a.toList == b.toList)=decide (a=b):=by
 rw[ByteArray.toList_eq,ByteArray.toList_eq];cases a with|mk a=>cases b with|mk b =>
 by_cases h:a=b
 .subst h;simp
 .simp[h]
def Z.u0{t yt:TypeId}{x y:Operand}{a b:ByteArray}(M:bG env x=some (.string a))(U:bG env y=some (.string b)):Z P L env (.binOp .eql t x y yt) ty (.bool (dB (a=b))) :=
 Z.mk (λ_ _ _ w ea _ _ _ _ _=>by
  simp[execOp,aI ea M,aI ea U,eqGuard,binOp,Op.stringOp,dF,Aj])
def Z.t6{t yt:TypeId}{x y:Operand}{a b:ByteArray}(M:bG env x=some (.string a))(U:bG env y=some (.string b)):Z P L env (.binOp .neq t x y yt) ty (.bool (dB (¬a=b))) :=
 Z.mk (λ_ _ _ w ea _ _ _ _ _=>by
  simp[execOp,aI ea M,aI ea U,eqGuard,binOp,Op.stringOp,dF,Aj])
def oa(G:List Int)(k:IntKind):G.flatMap (eU k)=G.map (Value.int k):=ox _ G
def Z.k9{s t:TypeId}{x:Operand}{ad:OA}{n c ζ sz bb:Nat}{z:χ}{G:List Int}[hs:M9 P s ζ sz bb z][he:Qv P ζ .u8][ht:Ub P t][hr:F5 L ad Int (eU .u8) 1 G](M:bG env x=some (.slice ad n c))(hn:n=G.length) :
  Z P L env (.convert s t x) ty (.string (strOfNums G)) :=
 Z.mk (λθ R _ w ea st _ _ _ _=>by
  subst hn;obtain⟨I,Q⟩:=hr.rd θ R w st
  have hc:(convert s t (.slice ad G.length c)).run P w=.ok (.string (strOfNums G)) w:=by
   rw[run_convert_bytes_string w s t ζ ad G.length c hs.under he.under ht.under];rcases Q with rfl|⟨a,rfl,h3⟩
   .cases ad with
    | none=>simp[Conv.bytesToString,strOfNums];rfl
    | some a =>
     have T:(loadCells a 0).run P w=.ok (([]:List Int).map (Value.int .u8)).toArray w:=by simp[loadCells,loadCellsFrom]
     exact(run_bytesToString w a 0 c [] T).trans (by simp[strOfNums];rfl)
   .rw[oa] at h3;have T:=run_loadCells_list (P:=P) w a (G.map (Value.int .u8)) h3;rw[List.length_map] at T;rw[run_bytesToString w a G.length c G T,foldl_push_bytes];simp[strOfNums,ByteArray.empty,ByteArray.emptyWithCapacity];rfl
  simp[execOp,aI ea M,hc])
def nJ{α:Type}[Inhabited α](f:Nat->α)(x:α)(n:Nat)(h:∀i,i<n->f i=x):(Array.range n).map f=(List.replicate n x).toArray:=by
 apply Array.ext
 .simp
 .intro i I Q;simp at I ⊢;exact h i I
def Ef.makeSlice{t:TypeId}{x y:Operand}{ζ bb:Nat}{z0:Value}{α:Type}(Η:α->χ)(e:α){n:Int}[ht:M9 P t ζ 1 bb [z0]](M:bG env x=some (.int .i64 n))(U:bG env y=some (.int .i64 n))(he:Η e=[z0])(h0:0<=n)(I:n*bb<=16777216)(Q:n<=1000000000) :
  Ef P L env (.makeSlice t x y) ty (λv Ε=>∃b,v=.slice (some ⟨b,0,none⟩) n.toNat n.toNat/\Ε = μ Η 1 ζ (some ⟨b,0,none⟩) n.toNat (List.replicate n.toNat e)::L) :=
 Ef.val (λθ R a w ea s A pos af g=>⟨.slice (some ⟨w.heap.size,0,none⟩) n.toNat n.toNat,w.alloc (.cells (List.replicate n.toNat z0).toArray ζ),_,by
  obtain⟨ii,zz,i1,i2,i3,i4,i5⟩:=ht.Γ
  have hz:zz.cells=#[z0]:=by
   have:=i3
   apply Array.ext';simpa using this
  have hm:madeCells zz.cells (n.toNat*ii.size)=(List.replicate n.toNat z0).toArray:=by
   rw[hz,i4,Nat.mul_one];exact nJ _ _ _ (λi _=>by simp[Nat.mod_one])
  have hk:=run_make (P:=P) w t ζ ii zz ht.under i1 i2 .i64 .i64 n n h0 (Int.le_refl _) (by rw[i5,Int.mul_comm];omega) (by omega);rw[hm] at hk
  simp[execOp,aI ea M,aI ea U,hk],⟨_,rfl,rfl⟩,by
   have s1:=s.alloc (o:=.cells (List.replicate n.toNat z0).toArray ζ);refine Sat.Rm (Η:=Η) (sz:=1) (cap:=n.toNat) (G:=List.replicate n.toNat e) (L:=L++R) s1 ?_ (by simp) (by simp only[maxLen];omega) (by simp) ?_
   .intro x M;rw[List.eq_of_mem_replicate M,he];rfl
   .have:∀k,(List.replicate k e).flatMap Η=List.replicate k z0:=by
     intro k;induction k with
     | zero=>rfl
     | succ k ih=>rw[List.replicate_succ,List.flatMap_cons,ih,he];rfl
    rw[this];simp⟩)
def Ef.cM{op:Op}{Ε : Ι}{post:Value->Ι->Prop}(h:E L Ε)(k:Ef P Ε env op ty post):Ef P L env op ty post:=λθ R a w o next F9 ha s I Q hn=>k θ R a w o next F9 ha (h θ R w s) I Q hn
def Ef.k7{f:FuncId}{G:Array Operand}{ats:Array TypeId}{vs:χ}{post:Value->Ι->Prop}{Φ:HP}{R:Ι}[h:TF L Φ R]
  (c:Υ P f vs.toArray (Φ::R) post) (hv:fG env G.toList=some vs):Ef P L env (.call { callee:=.value (.func f),args:=G,argTypes:=ats }) ty post:=Ef.cM (E.perm h.perm) (Ef.d8 c hv)
def zN{α:Type}[Inhabited α]{Η:α->χ}{sz o:Nat}{e:α}{v:Value}:∀{G:List α} {j:Nat},(∀x∈G,(Η x).length=sz)->j<G.length->o<sz->Η e=(Η G[j]!).set o v->(G.set j e).flatMap Η=(G.flatMap Η).set (j*sz+o) v
 | [],j,_,hj,_,_=>by simp at hj
 | x::G,0,h,_,ho,he=>by
  have M:=h x (by simp);simp only[List.set_cons_zero,List.flatMap_cons,Nat.zero_mul,Nat.zero_add];rw[List.set_append,Ω (by omega),he];simp
 | x::G,j+1,h,hj,ho,he=>by
  have M:=h x (by simp);simp only[List.set_cons_succ,List.flatMap_cons];have e1:¬((j+1)*sz+o<(Η x).length):=by rw[M,Nat.succ_mul];omega
  rw[List.set_append,Ο e1];have e2:(j+1)*sz+o - (Η x).length=j*sz+o:=by rw[M,Nat.succ_mul];omega
  rw[e2,zN (λy U=>h y (by simp[U])) (by simpa using hj) ho (by simpa using he)]
def Ef.d7{t:TypeId}{x y:Operand}{ad:OA}{sz j o ζ cap:Nat}{α:Type}[Inhabited α]{Η:α->χ}{G:List α}{G1:Ι}{v:Value}(e:α)[ht:L8 P t][hp:RH L ad α Η sz ζ cap G G1]
  (M:bG env x=some (.pointer (OQ ad sz j o))) (U:bG env y=some v) (he:Η e=(Η G[j]!).set o v) (I:v.oneCell' = true) (hj:j<G.length) (ho:o<sz) :
  Ef P L env (.store t x y) ty (λ_ Ε=>Ε = μ Η sz ζ ad cap (G.set j e)::G1) :=
 Ef.skip (λθ R ρ w ea s b0 pos af g=>by
  have s1:=s.perm (hp.perm.append_right R);obtain⟨p1,p2,p3,p4⟩:=Sat.Qw s1;rcases p4 with⟨rfl,rfl⟩|⟨gb,J,rfl,f1,f2,f3⟩
  .omega
  .have hb:w.heap[gb]? = some (.cells J ζ (0,0)):=f3.M8
   have a5:j*sz+o<G.length*sz:=by
    have:(j+1)*sz<=G.length*sz:=Nat.mul_le_mul_right _ hj
    rw[Nat.succ_mul] at this;omega
   have a6:j*sz+o<J.size:=by
    have:=Nat.mul_le_mul_right sz p2
    omega
   have a3:∀y∈G.set j e,(Η y).length=sz:=by
    intro y a9;rcases List.mem_or_eq_of_mem_set a9 with h|h
    .exact p1 y h
    .subst h;rw[he,List.length_set];exact p1 _ (by rw[List.getElem!_eq_getElem?_getD,List.getElem?_eq_getElem hj];exact List.getElem_mem _)
   have A:w.cell? ⟨gb,j*sz+o,none⟩=some J[j*sz+o]:=by rw[ej hb];simp[a6]
   have a4:w.frozen? ⟨gb,j*sz+o,none⟩=false:=by simp[World.frozen?,hb]
   have a2:v.cells=#[v]:=by cases v<;>first|rfl|cases I
   refine⟨w.setCell ⟨gb,j*sz+o,none⟩ v,_,?_,rfl,?_⟩
   .have a7 : bG env x=some (.pointer (some ⟨gb,j*sz+o,none⟩)):=by rw[M];simp only[OQ,Option.map_some,fV]
    simp[execOp,aI ea a7,aI ea U,Instr.storeAt,Instr.sureAddr,storeVar,L8.QL,a2,storeCells,Addr.add,run_store _ _ _ _ _ I,A,a4]
   .have s3:Sat θ (sh gb (.cells (J.setIfInBounds (j*sz+o) v) ζ (0,0))::(G1++R)) (w.setCell ⟨gb,j*sz+o,none⟩ v):=by
     refine Sat.update f3 ⟨s.1.tape,s.1.os,s.1.output,s.1.drawn⟩ ?_ (λk x hk M=>by rw[lW v hk];exact M);rw[mo v hb]
    refine Sat.Rm (L:=G1++R) s3 a3 (by simpa using p2) p3 (by simpa using f1) ?_;rw[zN p1 hj ho he,<-f2];simp[List.take_set])
def Ef.g9{t:TypeId}{x y:Operand}{ad:OA}{j ζ cap:Nat}{k:IntKind}{n:Int}{G:List Int}{G1:Ι}[ht:L8 P t][hp:RH L ad Int (eU k) 1 ζ cap G G1]
  (M:bG env x=some (.pointer (OQ ad 1 j 0))) (U:bG env y=some (.int k n)) (hj:j<G.length) :
  Ef P L env (.store t x y) ty (λ_ Ε=>Ε = μ (eU k) 1 ζ ad cap (G.set j n)::G1):=Ef.d7 n M U rfl rfl hj (by omega)
def Z.l0{s t:TypeId}{x:Operand}{k:IntKind}{a:Int}[hs:Qv P s k][ht:Qv P t .i64](M:bG env x=some (.int k a))(h0 : -9223372036854775808<=a)(I:a<=9223372036854775807):Z P L env (.convert s t x) ty (.int .i64 a):=by
 have:=Z.conv (P:=P) (L:=L) (ty:=ty) (s:=s) (t:=t) M
 rwa [IntWalk.i64_in a ⟨h0,I⟩] at this
def Z.m5{s t:TypeId}{x:Operand}{k:IntKind}{a:Int}[hs:Qv P s k][ht:Qv P t .u8](M:bG env x=some (.int k a))(h0:0<=a)(I:a<=255):Z P L env (.convert s t x) ty (.int .u8 a):=by
 have:=Z.conv (P:=P) (L:=L) (ty:=ty) (s:=s) (t:=t) M
 rwa [IntWalk.u8_in a ⟨h0,I⟩] at this
def Z.k8{s t:TypeId}{x:Operand}{k:IntKind}{a:Int}[hs:Qv P s k][ht:Qv P t .u64](M:bG env x=some (.int k a))(h0:0<=a)(I:a<=18446744073709551615):Z P L env (.convert s t x) ty (.int .u64 a):=by
 have:=Z.conv (P:=P) (L:=L) (ty:=ty) (s:=s) (t:=t) M
 rwa [IntWalk.u64_in a ⟨h0,I⟩] at this
end
end
section
section
variable {P:Program}{N:Nat}{env:Env}{L:Ι}{Ρ:F8}{ops:Array Oper}{cR:List Oper}{Ξ i:Nat}{op:Op}{ty:TypeId}{pos:String}{af:Array Edge}{X:Ι}{f:Nat->Value}{g:Nat->Ι}{done:List Nat}{y5:List K3}{E8:List PE}
theorem Y.c7(he:Ef P L env op ty (λ_ Ε=>Ε = X))(h:Y P N ops cR env X Ρ):Y P N ops (⟨none,op,ty,pos,af,none⟩::cR) env L Ρ:=Y.No he (by rintro _ _ rfl;exact h)
def Y.SJ(he:Ef P L env op ty (λv Ε=>∃b,v=f b/\Ε = g b))(hd:Ξ<N)(h:∀b,Y P N ops cR ((Ξ,f b)::env) (g b) Ρ):Y P N ops (⟨some Ξ,op,ty,pos,af,none⟩::cR) env L Ρ:=Y.ef he hd (by rintro _ _⟨b,rfl,rfl⟩;exact h b)
theorem δ.a8(he:Ef P L env op ty (λ_ Ε=>Ε = X))(h:vi P N ops done i y5 E8 [] env X Ρ):δ P N ops done (.ef i) y5 none op ty E8 env L Ρ:=δ.No he (by rintro _ _ rfl;exact h)
def δ.SJ(he:Ef P L env op ty (λv Ε=>∃b,v=f b/\Ε = g b))(hd:Ξ<N)(h:∀b,vi P N ops done i y5 E8 [] ((Ξ,f b)::env) (g b) Ρ):δ P N ops done (.ef i) y5 (some Ξ) op ty E8 env L Ρ:=δ.ef he hd (by rintro _ _⟨b,rfl,rfl⟩;exact h b)
end
class En (P:Program) (f:FuncId) (fn:outParam Func) (N:outParam Nat):Prop where
 en:Enters P f
 hf:P.funcs[f]? = some fn
 hN:fn.ntmps=N
def Υ.bd{P:Program}{f:FuncId}{fn:Func}{c:Code}{args:χ}{L:Ι}{post:Value->Ι->Prop}{rs:List ResultVar}{N:Nat}[e:En P f fn N](h:Β P N c (OP args 0) L (Ends P N rs post))(hb:fn.body=some c:=by exact rfl)(hr:fn.results=rs.toArray:=by exact rfl)(hn:args.length<=N:=by simp):Υ P f args.toArray L post:=Υ.body N e.en e.hf hb hr e.hN hn h
def KX.en{P:Program}{N:Nat}{env:Env}{L:Ι}{rs:List ResultVar}{post:Value->Ι->Prop}{vs:χ}{Ε : Ι}(h3:post (O5 vs) Ε)(I:C9 P N env L rs vs:=by exact C9.tmps rfl)(Q:E L Ε:=by repeat (first|exact E.refl _|exact E.nil _|refine E.m7 ?_|refine E.trans E.drop ?_)):Ends P N rs post .ret env L:=KX.a8 I Q h3
def Y.ca{P:Program}{N:Nat}{env:Env}{L:Ι}{Ρ:F8}{Ξ:Nat}{f:FuncId}{G:Array Operand}{ats:Array TypeId}{ty:TypeId}{vs:χ}{post:Value->Ι->Prop}{A:Array Oper}{cR:List Oper}{pos:String}{af:Array Edge}(c:Υ P f vs.toArray L post)(h:∀v Ε,post v Ε->Y P N A cR ((Ξ,v)::env) Ε Ρ)(hv:fG env G.toList=some vs:=by exact rfl)(hd:Ξ<N:=by decide):Y P N A (⟨some Ξ,.call {callee:=.value (.func f),args:=G,argTypes:=ats},ty,pos,af,none⟩::cR) env L Ρ:=Y.ef (Ef.d8 c hv) hd h
def Y.cr{P:Program}{N:Nat}{env:Env}{L:Ι}{Ρ:F8}{Ξ:Nat}{f:FuncId}{G:Array Operand}{ats:Array TypeId}{ty:TypeId}{vs:χ}{A:Array Oper}{cR:List Oper}{pos:String}{af:Array Edge}{a:Value}{ο:Ι}(c:Υ P f vs.toArray L (λv Ε=>v=a/\Ε = ο))(h:Y P N A cR ((Ξ,a)::env) ο Ρ)(hv:fG env G.toList=some vs:=by exact rfl)(hd:Ξ<N:=by decide):Y P N A (⟨some Ξ,.call {callee:=.value (.func f),args:=G,argTypes:=ats},ty,pos,af,none⟩::cR) env L Ρ:=Y.ef (Ef.d8 c hv) hd (by rintro _ _⟨rfl,rfl⟩;exact h)
def δ.ca{P:Program}{N:Nat}{env:Env}{L:Ι}{Ρ:F8}{Ξ:Nat}{f:FuncId}{G:Array Operand}{ats:Array TypeId}{ty:TypeId}{vs:χ}{post:Value->Ι->Prop}{J:Array Oper}{done:List Nat}{y5:List K3}{A:List PE}{i:Nat}(c:Υ P f vs.toArray L post)(h:∀v Ε,post v Ε->vi P N J done i y5 A [] ((Ξ,v)::env) Ε Ρ)(hv:fG env G.toList=some vs:=by exact rfl)(hd:Ξ<N:=by decide):δ P N J done (.ef i) y5 (some Ξ) (.call {callee:=.value (.func f),args:=G,argTypes:=ats}) ty A env L Ρ:=δ.ef (Ef.d8 c hv) hd h
def δ.cr{P:Program}{N:Nat}{env:Env}{L:Ι}{Ρ:F8}{Ξ:Nat}{f:FuncId}{G:Array Operand}{ats:Array TypeId}{ty:TypeId}{vs:χ}{J:Array Oper}{done:List Nat}{y5:List K3}{A:List PE}{i:Nat}{a:Value}{ο:Ι}(c:Υ P f vs.toArray L (λv Ε=>v=a/\Ε = ο))(h:vi P N J done i y5 A [] ((Ξ,a)::env) ο Ρ)(hv:fG env G.toList=some vs:=by exact rfl)(hd:Ξ<N:=by decide):δ P N J done (.ef i) y5 (some Ξ) (.call {callee:=.value (.func f),args:=G,argTypes:=ats}) ty A env L Ρ:=δ.ef (Ef.d8 c hv) hd (by rintro _ _⟨rfl,rfl⟩;exact h)
def Β.dr{P:Program}{env:Env}{L:Ι}{Ρ:F8}(N r:Nat){l:List Oper}(y5:List K3)[hK:Ro Ρ](h:GP P N l.toArray [] y5 [] env L Ρ)(hm:P.follows .mixedOrders=true:=by exact mixed)(hp:(jq l.toArray [] y5 && (y5.length == l.toArray.size) && Region.noSelect l.toArray && SI l.toArray)=true:=by kernel_rfl):Β P N (.region r l.toArray true) env L Ρ:=Β.j5 y5 hm hp h
def W6(n:Nat):Code->Bool
 | .region i _ _=>Nat.beq i n
 | _=>false
def MI(n:Nat):Code->Bool
 | .seq x _=>W6 n x
 | _=>false
def Β.sn{P:Program}{N:Nat}{env:Env}{L:Ι}{Ρ:F8}(n:Nat){x y:Code}(h:Β P N x env L (Ρ.seq λA Ε=>Β P N y A Ε Ρ))(hb:W6 n x=false:=by rfl):Β P N (.seq x y) env L Ρ:=Β.seq h
def Β.sm{P:Program}{N:Nat}{env:Env}{L:Ι}{Ρ:F8}(n:Nat){x y:Code}(h:Β P N x env L (Ρ.seq λA Ε=>Β P N y A Ε Ρ))(hb:MI n x=false:=by rfl):Β P N (.seq x y) env L Ρ:=Β.seq h
abbrev F7(a:Value)(ο:Ι):Value->Ι->Prop:=λv Ε=>v=a/\Ε = ο
structure Hid (ψ:Prop):Prop where
 out:ψ
def Θ{φ:Prop}(h:φ:=by kernel_rfl):φ:=h
def ac{φ:Prop}(h:φ:=by decide):φ:=h
def aj{φ:Prop}(h:φ:=by repeat (first|exact E.refl _|exact E.nil _|refine E.m7 ?_|refine E.trans E.drop ?_)):φ:=h
def aC{φ:Prop}(h:φ:=by exact C9.tmps rfl):φ:=h
def cg{φ:Prop}(h:φ:=by simp):φ:=h
def aY{φ:Prop}(h:φ:=by rfl):φ:=h
def ib{φ:Prop}(h:φ:=by simp;omega):φ:=h
def oT{φ:Prop}(h:φ:=by dsimp only;omega):φ:=h
def fT{φ:Prop}(h:φ:=by repeat (first|exact E.refl _|apply E.take)):φ:=h
def D{φ:Prop}(h:φ:=by omega):φ:=h
theorem ah{φ:Prop}(h:φ:=by grind):φ:=h
def bJ(i:Nat):((i+1:Nat):Int)=(i:Int)+1:=by omega
def uw{α:Type}{p:α->Prop}:∀x∈([]:List α),p x:=λ_ h=>iJ h List.not_mem_nil
abbrev ay(b:Nat):Value:=.pointer (some ⟨b,0,none⟩)
abbrev K(x:Int):Value:=.int .i64 x
abbrev ae(a:OA)(n c:Nat):Value:=.slice a n c
abbrev bC(l:χ):Value:=.agg l.toArray
def dY:type_of% @Array.length_toList:=@Array.length_toList
def iY:type_of% @Bool.and_eq_true:=@Bool.and_eq_true
def em:type_of% @Bool.false_eq_true:=@Bool.false_eq_true
def fu:type_of% @Bool.false_ne_true:=@Bool.false_ne_true
def ed:type_of% @Int.add_zero:=@Int.add_zero
def jc:type_of% @Int.ediv_nonneg:=@Int.ediv_nonneg
def dA:type_of% @Int.emod_lt_of_pos:=@Int.emod_lt_of_pos
def ft:type_of% @Int.emod_nonneg:=@Int.emod_nonneg
def dK:type_of% @Int.fdiv_eq_ediv_of_nonneg:=@Int.fdiv_eq_ediv_of_nonneg
def bE:type_of% @Int.le_refl:=@Int.le_refl
def bB:type_of% @Int.toNat_natCast:=@Int.toNat_natCast
def aF:type_of% @List.append_assoc:=@List.append_assoc
def aJ:type_of% @List.append_nil:=@List.append_nil
def aq{α:Type _}{a:α}{b c:List α}:(a::b)++c=a::(b++c):=rfl
theorem bZ:type_of% @List.drop_eq_getElem_cons:=@List.drop_eq_getElem_cons
theorem bV:type_of% @List.drop_of_length_le:=@List.drop_of_length_le
def cc:type_of% @List.eq_nil_of_length_eq_zero:=@List.eq_nil_of_length_eq_zero
def fP:type_of% @List.eq_of_mem_replicate:=@List.eq_of_mem_replicate
theorem eX:type_of% @List.ext_getElem:=@List.ext_getElem
def gM:type_of% @List.ext_getElem?:=@List.ext_getElem?
def dD:type_of% @List.filter_cons_of_pos:=@List.filter_cons_of_pos
def dJ:type_of% @List.flatMap_append:=@List.flatMap_append
def aS:type_of% @List.flatMap_cons:=@List.flatMap_cons
def cZ:type_of% @List.flatMap_nil:=@List.flatMap_nil
def eJ:type_of% @List.getElem_append_right:=@List.getElem_append_right
def eW:type_of% @List.getElem_map:=@List.getElem_map
def cY:type_of% @List.getElem_mem:=@List.getElem_mem
def aA:type_of% @List.length_append:=@List.length_append
def aL:type_of% @List.length_cons:=@List.length_cons
def cB:type_of% @List.length_drop:=@List.length_drop
def fD:type_of% @List.length_filter_le:=@List.length_filter_le
theorem ak:type_of% @List.length_map:=@List.length_map
def bq:type_of% @List.length_nil:=@List.length_nil
def bU:type_of% @List.length_set:=@List.length_set
def bh:type_of% @List.length_singleton:=@List.length_singleton
def aP:type_of% @List.length_take:=@List.length_take
def cA:type_of% @List.lookup_cons:=@List.lookup_cons
def aQ:type_of% @List.map_append:=@List.map_append
theorem aU:type_of% @List.map_congr_left:=@List.map_congr_left
def al:type_of% @List.map_cons:=@List.map_cons
def cu:type_of% @List.map_map:=@List.map_map
def bu:type_of% @List.map_nil:=@List.map_nil
def cx:type_of% @List.mem_append_left:=@List.mem_append_left
def cj:type_of% @List.mem_append_right:=@List.mem_append_right
def fL:type_of% @List.mem_cons:=@List.mem_cons
def az:type_of% @List.mem_cons_of_mem:=@List.mem_cons_of_mem
theorem au:type_of% @List.mem_cons_self:=@List.mem_cons_self
theorem O6:type_of% @List.mem_map_of_mem:=@List.mem_map_of_mem
def eK:type_of% @List.mem_of_mem_drop:=@List.mem_of_mem_drop
def cI:type_of% @List.mem_of_mem_take:=@List.mem_of_mem_take
def av{α:Type _}{b:List α}:[]++b=b:=rfl
def gL:type_of% @List.nodup_append:=@List.nodup_append
def eD:type_of% @List.nodup_cons:=@List.nodup_cons
def dp:type_of% @List.nodup_nil:=@List.nodup_nil
def aH:type_of% @List.not_mem_nil:=@List.not_mem_nil
def fR:type_of% @List.of_mem_zip:=@List.of_mem_zip
def dC:type_of% @List.pairwise_singleton:=@List.pairwise_singleton
def fC:type_of% @List.perm_append_comm:=@List.perm_append_comm
theorem dN:type_of% @List.perm_middle:=@List.perm_middle
theorem df:type_of% @List.range_succ:=@List.range_succ
def fB:type_of% @List.set_append_right:=@List.set_append_right
def fU:type_of% @List.set_cons_zero:=@List.set_cons_zero
theorem eC:type_of% @List.set_getElem_self:=@List.set_getElem_self
def gJ:type_of% @List.size_toArray:=@List.size_toArray
def dV:type_of% @List.sum_append:=@List.sum_append
def aR:type_of% @List.sum_cons:=@List.sum_cons
theorem cL:type_of% @List.take_append_drop:=@List.take_append_drop
theorem cK:type_of% @List.take_length:=@List.take_length
theorem aN:type_of% @List.take_of_length_le:=@List.take_of_length_le
theorem aB:type_of% @List.take_succ_eq_append_getElem:=@List.take_succ_eq_append_getElem
def bA:type_of% @List.take_zero:=@List.take_zero
def dc:type_of% @Nat.add_assoc:=@Nat.add_assoc
def cH:type_of% @Nat.add_le_add:=@Nat.add_le_add
def dX:type_of% @Nat.add_mul:=@Nat.add_mul
def dw:type_of% @Nat.add_zero:=@Nat.add_zero
def fQ:type_of% @Nat.div_add_mod:=@Nat.div_add_mod
def fy:type_of% @Nat.div_lt_iff_lt_mul:=@Nat.div_lt_iff_lt_mul
def aV:type_of% @Nat.le_of_ble_eq_true:=@Nat.le_of_ble_eq_true
def ax:type_of% @Nat.le_refl:=@Nat.le_refl
def aO:type_of% @Nat.le_trans:=@Nat.le_trans
def dE:type_of% @Nat.min_eq_left:=@Nat.min_eq_left
def dW:type_of% @Nat.mod_lt:=@Nat.mod_lt
def bS:type_of% @Nat.mul_le_mul_right:=@Nat.mul_le_mul_right
def gc:type_of% @Nat.mul_one:=@Nat.mul_one
def ig:type_of% @Nat.succ_mul:=@Nat.succ_mul
def dv:type_of% @Nat.zero_add:=@Nat.zero_add
def aD:type_of% @Nat.zero_le:=@Nat.zero_le
def io:type_of% @Option.map_none:=@Option.map_none
def fq:type_of% @Option.map_some:=@Option.map_some
def aG{φ:Prop}(h:φ:=by repeat (first|exact On.nil _|refine On.cons rfl ?_)):φ:=h
def zS{φ:Prop}(h:φ:=by first|((with_reducible apply Z.u9);exact Z.move rfl)|((with_reducible apply Z.p8);exact Z.assign rfl)|((with_reducible apply Z.u7);first|exact Z.n9 rfl rfl|exact Z.n7 rfl rfl)|((with_reducible apply Z.o7);exact Z.extract rfl rfl)|((with_reducible apply Z.x6);exact Z.nilCheck rfl)|((with_reducible apply Z.p7);exact Z.o0 rfl rfl D D)|((with_reducible apply Z.x7);first|exact Z.eql rfl rfl|exact Z.neq rfl rfl|exact Z.lss rfl rfl|exact Z.leq rfl rfl|exact Z.gtr rfl rfl|exact Z.geq rfl rfl|exact Z.add rfl rfl D D|exact Z.sub rfl rfl D D|exact Z.mul rfl rfl D D|exact Z.quo rfl rfl D D D|exact Z.y6 rfl rfl D D D|exact Z.rem rfl rfl D D|exact Z.x9 rfl rfl D|exact Z.u4 rfl rfl|exact Z.t7 rfl rfl|exact Z.p6 rfl rfl|exact Z.w5 rfl rfl|exact Z.z7 rfl rfl|exact Z.z6 rfl rfl|exact Z.u0 rfl rfl|exact Z.t6 rfl rfl|exact Z.w9 rfl rfl aY aY|exact Z.w6 rfl rfl aY aY)|((with_reducible apply Z.z8);first|exact Z.y8 rfl|exact Z.y9 rfl|exact Z.not rfl|exact Z.o8 rfl|exact Z.neg rfl D D)|((with_reducible apply Z.q8);first|exact Z.build rfl rfl|exact Z.u6 rfl rfl)|((with_reducible apply Z.v6);exact Z.makeFunc rfl rfl)|((with_reducible apply Z.q7);first|exact Z.p9 rfl rfl D D|exact Z.n8 rfl rfl D D|exact Z.p5 rfl rfl rfl D D D|exact Z.o9 rfl rfl rfl D D D)|((with_reducible apply Z.v7);first|exact Z.w8 rfl|exact Z.t8 rfl|exact Z.min2 rfl rfl|exact Z.max2 rfl rfl)|((with_reducible apply Z.l7);first|exact Z.fieldAddr rfl|exact Z.d7 rfl (by first|omega|exact aV rfl)|exact Z.f8 rfl)|((with_reducible apply Z.m6);first|exact Z.l0 rfl D D|exact Z.m5 rfl D D|exact Z.k8 rfl D D|exact Z.conv rfl|exact Z.k9 rfl (by first|rfl|omega|(simp;first|done|omega)))):φ:=h
def zR{φ:Prop}(h:φ:=by first|((with_reducible apply Z.o6);first|exact Z.d8 rfl rfl|exact Z.f7 rfl (by first|omega|exact aV rfl) ac rfl|exact Z.c9 rfl aY|exact Z.d9 rfl (by first|omega|exact aV rfl)|exact Z.c8 rfl rfl)|((with_reducible apply Z.j8);first|exact Z.indexAddr rfl rfl D (by first|omega|exact aV rfl) (by first|omega|exact aV rfl)|exact Z.l9 rfl rfl D D|exact Z.m7 rfl rfl (by first|omega|exact aV rfl) D D)|((with_reducible apply Z.l7);first|exact Z.fieldAddr rfl|exact Z.d7 rfl (by first|omega|exact aV rfl)|exact Z.f8 rfl)|((with_reducible apply Z.m6);first|exact Z.l0 rfl D D|exact Z.m5 rfl D D|exact Z.k8 rfl D D|exact Z.conv rfl|exact Z.k9 rfl (by first|rfl|omega|(simp;first|done|omega)))):φ:=h
def zQ{φ:Prop}(h:φ:=by first|((with_reducible apply Z.o6);first|exact Z.d8 rfl rfl|exact Z.f7 rfl (by first|omega|exact aV rfl) ac rfl|exact Z.c9 rfl aY|exact Z.d9 rfl (by first|omega|exact aV rfl)|exact Z.c8 rfl rfl)|((with_reducible apply Z.j8);first|exact Z.indexAddr rfl rfl D (by first|omega|exact aV rfl) (by first|omega|exact aV rfl)|exact Z.j5 rfl rfl D D|exact Z.l9 rfl rfl D D|exact Z.m7 rfl rfl (by first|omega|exact aV rfl) D D)|((with_reducible apply Z.l7);first|exact Z.fieldAddr rfl|exact Z.d7 rfl (by first|omega|exact aV rfl)|exact Z.f8 rfl)|((with_reducible apply Z.m6);first|exact Z.l0 rfl D D|exact Z.m5 rfl D D|exact Z.k8 rfl D D|exact Z.conv rfl|exact Z.k9 rfl (by first|rfl|omega|(simp;first|done|omega)))):φ:=h
def zT{φ:Prop}(h:φ:=by first|exact zQ|exact zS):φ:=h
def MK{φ ψ:Prop}(k:ψ)(h:Hid ψ->φ:=by intro k;(repeat1' (first|((with_reducible apply Y.a8);first|refine Y.ev zT ac ?_|refine Y.SJ (Ef.j9 rfl) ac ?_|refine Y.SJ (Ef.k9 rfl rfl) ac ?_|refine Y.SJ (Ef.alloc) ac ?_|refine Y.SJ (Ef.lit rfl rfl ac rfl) ac ?_)|((with_reducible apply Y.d8);first|refine Y.f8 rfl rfl ac ?_|refine Y.f9 rfl rfl ac ?_|refine Y.c9 rfl rfl ac ?_)|with_reducible apply Y.nil|((with_reducible apply Y.g8);first|refine Y.c7 (Ef.g9 rfl rfl (by first|omega|exact aV rfl)) ?_|refine Y.c7 (Ef.g8 rfl rfl rfl rfl) ?_|refine Y.c7 (Ef.f9 rfl rfl aY aY (by first|exact Rl.one _|simp[Value.oneCell'])) ?_|refine Y.c7 (Ef.f8 rfl rfl aY rfl (by first|exact Rl.one _|simp[Value.oneCell'])) ?_)|((with_reducible apply GP.d9);first|refine GP.go rfl ?_|refine GP.d7 rfl rfl rfl ac ?_|refine GP.d8 rfl rfl rfl ac ?_|refine GP.c9 rfl rfl rfl ac ?_)|((with_reducible apply δ.c8);first|refine δ.MP zS ac ?_|refine δ.NV zR ac ?_|refine δ.MP (by((with_reducible apply Z.j8);exact Z.j5 rfl rfl D D)) ac ?_)|with_reducible apply GP.nil|((with_reducible apply δ.c9);first|refine δ.SJ (Ef.j9 rfl) ac ?_|refine δ.SJ (Ef.k9 rfl rfl) ac ?_|refine δ.SJ (Ef.alloc) ac ?_|refine δ.SJ (Ef.lit rfl rfl ac rfl) ac ?_)|((with_reducible apply δ.c7);first|refine δ.a8 (Ef.g9 rfl rfl (by first|omega|exact aV rfl)) ?_|refine δ.a8 (Ef.g8 rfl rfl rfl rfl) ?_|refine δ.a8 (Ef.f9 rfl rfl aY aY (by first|exact Rl.one _|simp[Value.oneCell'])) ?_|refine δ.a8 (Ef.f8 rfl rfl aY rfl (by first|exact Rl.one _|simp[Value.oneCell'])) ?_)|with_reducible apply vi.nil|with_reducible apply CB.tt|with_reducible apply CB.ff|with_reducible refine CB.pos D ?_|with_reducible refine CB.neg D ?_|with_reducible refine CB.pos (by simp;first|done|omega) ?_|with_reducible refine CB.neg (by simp;first|done|omega) ?_|with_reducible apply GB.tt|with_reducible apply GB.ff|with_reducible refine GB.pos D ?_|with_reducible refine GB.neg D ?_|with_reducible refine GB.pos (by simp;first|done|omega) ?_|with_reducible refine GB.neg (by simp;first|done|omega) ?_|with_reducible refine KX.f8 ?_|with_reducible refine KX.d7 ?_|with_reducible refine KX.f7 ?_|with_reducible refine KX.g8 ?_|with_reducible refine KX.d8 ?_|with_reducible refine KX.d9 ?_|with_reducible refine KX.c7 ?_|with_reducible refine KX.c9 ac ?_|with_reducible apply Β.block|with_reducible apply Β.region|with_reducible apply Β.skip|with_reducible apply Β.exit|with_reducible apply Β.ret|refine Β.cond rfl ?_));exact Hid.out k):φ:=h ⟨k⟩
def run{φ ψ:Prop}(k:ψ)(h:Hid ψ->φ:=by intro k;(repeat1' (first|refine MK ?_|((with_reducible apply vi.a8);first|refine vi.drop rfl ?_|refine vi.keep zQ ?_)|with_reducible apply Β.seq));exact Hid.out k):φ:=h ⟨k⟩
