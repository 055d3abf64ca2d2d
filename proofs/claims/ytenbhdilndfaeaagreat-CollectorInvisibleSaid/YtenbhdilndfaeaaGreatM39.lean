import Derived.Test.YtenbhdilndfaeaaGreatM31
import Derived.Test.YtenbhdilndfaeaaGreatM32
import Derived.Test.YtenbhdilndfaeaaGreatM33
import Derived.Test.YtenbhdilndfaeaaGreatM34
import Derived.Test.YtenbhdilndfaeaaGreatM38
set_option maxRecDepth 100000
set_option maxHeartbeats 0
set_option linter.all false
namespace Go.Proofs.YtenbhdilndfaeaaGreat
open Go.RowKit Go.Proofs.Tryz
variable{d out:List Int}{base g:Nat}{ops:Array Oper}{a:Act}{Q:Exit->Act->World->Prop}{x:Int}{view:List Ob}{m:Md}(A B:OA)(c:Nat)
def LQ{G:Prop} (h:G:=by
 clear aB hs skip bu;go_wp2;go_roundw
 case rel=>exact bp.out
 case measure=>exact mz):G:=h
def x9(l:List Int)(n:Int):Int:=iE (λx=>x==n) l 0+1
def AV{l:List Int}{n:Int}:x9 l n=0↔n∉l:=by
 have b:=t6 (λx=>x==n) l 0;have k:=mH (λx=>x==n) l 0;have f:(∃x∈l,(x==n)=true)↔n∈l:=⟨λ⟨x,i,e⟩=>(beq_iff_eq.1 e)▸i,λh=>⟨n,h,beq_iff_eq.2 rfl⟩⟩;rw[f]at b;unfold x9;constructor
 .intro e h
  have:=b.2 h
  omega
 .intro h
  have:¬0<=iE (λx=>x==n) l 0:=λj=>h (b.1 j)
  omega
def uu(l:List Int)(n:Int)(w:World)(h:Ls w A l)(t:l.length<=1000000000):
 Calls prog 115 #[.slice A l.length c,Y n] w λe w'=>e=.returned (Y (x9 l n))/\w=w':=by
 refine h5 λQ q=>?_
 go_enter func115,ntmps115
 go_wp2
 go_loop [9] (λo=>∃b:Nat,b<=l.length/\o=Y b/\Hid (x9 l n=iE (λx=>x==n) (l.drop b) b+1)) (λo=>l.length-(intOf o).toNat)
 case atStart=>exact⟨0,N_ _,gn,U rfl⟩
 case round=>
  obtain⟨b,s,rfl,f⟩:=hrel
  by_cases k:b<l.length
  .obtain⟨r,u,hA,hc⟩:=h.at_ k;subst hA
   by_cases j:l[b]=n
   .have p:(l[b]==n)=true:=by simp[j]
    have i:=U (show x9 l n=(b:Int)+1 by rw[f.out,k2 _ _ _ _ k p]);clear j f;go_wp2;rw[q.out];exact⟨jZ (by rw[i.out]),rfl⟩
   .have p:(l[b]==n)=false:=by simp[j]
    have i:=U (show x9 l n=iE (λx=>x==n) (l.drop (b+1)) (b+1)+1 by rw[f.out,ka _ _ _ _ k p]);clear j f;go_wp2;go_round
    case rel=>exact⟨b+1,X,gn,i⟩
    case measure=>exact mz
  .have i:=U (show x9 l n=0 by rw[f.out,lu _ _ _ _ X];rfl);clear f;go_wp2;rw[q.out];exact⟨jZ (by rw[i.out]),rfl⟩
def Bj(l:List Rw)(id:Int)(w:World)(h:Os w A l)(o:l5 w l)(n:l.length<=1000000000):
 Calls prog 14 #[.agg #[.slice A l.length c],Y id] w λe w'=>∃(i:Int) (A':OA) (n' c':Nat),e=.returned (.tuple #[.agg #[Y i,.slice A' n' c'],.bool (jl (hX l) id).isSome])/\I [] w w':=by
 cases k:jl (hX l) id with
 |none=>exact(get_none A c l id w h n k).mono λe w'⟨b,f⟩=>⟨0,none,0,0,b,f⟩
 |some j=>exact(get_some A c l id j w h o n k).mono λe w'⟨A',c',b,_,f⟩=>⟨j.id,A',j.fs.length,c',b,f⟩
def oE(h:List Ob)(out:List Int)(v:Vl):List Int:=if(v.r&&((jl h v.n).isSome&&(x9 out v.n==0)))=true then out++[v.n] else out
def rp(h:List Ob)(out:List Int)(l:List Vl):List Int:=l.foldl (oE h) out
structure FO(h:List Ob)(out:List Int):Prop where
 nd:out.Nodup
 sub:∀x∈out,x∈iF h
def FO.len{h:List Ob}(b:FO h out):out.length<=h.length:=by
 have:=oz out b.nd b.sub
 simpa[iF]using this
def FO.one{h:List Ob}(e:FO h out)(v:Vl):FO h (oE h out v):=by
 unfold oE;split
 .rename_i f;simp only[F0]at f;have k:v.n∉out:=AV.1 (beq_iff_eq.1 f.2.2);obtain⟨o,n⟩:=Option.isSome_iff_exists.1 f.2.1;refine⟨Hv.2 ⟨e.nd,J,λa j p i=>?_⟩,λx b=>?_⟩
  .rw[I_]at i;subst i;rintro rfl;exact k j
  .rcases X_.1 b with b|b
   .exact e.sub x b
   .rw[I_]at b;subst b;exact nt.2 ⟨o,n⟩
 .exact e
def wb(hA R A:OA)(hc oc c:Nat)(h:List Rw)(l:List Vl)(w:World)(W:Os w hA h)(hR:l5 w h)(hn:h.length<=50000000)(hz:Zr base w R oc out)(hb:base<=w.heap.size)(hl:Vs w A l)(ck:l.length<=1000000000)(n:FO (hX h) out):
 Calls prog 114 #[.agg #[.slice hA h.length hc],.slice R out.length oc,.slice A l.length c] w λe w'=>∃(A':OA) (c':Nat),e=.returned (.slice A' (rp (hX h) out l).length c')/\Zr base w' A' c' (rp (hX h) out l)/\Fx base [2] w w':=by
 refine h5 λQ V=>?_
 obtain⟨k,g,aW,hg,v,hB⟩:=box1 w 35 #[.slice hA h.length hc];have MU:Os k hA h:=Sl.hF W v;have cD:l5 k h:=hR.hF v;have dy:=hz.hF v;have cO:Vs k A l:=Sl.hF hl v;have b0:base<=k.heap.size:=ov v.size;have B:=U (λ(id:Int)(w':World)(i:Os w' hA h)(a8:l5 w' h)=>Bj hA hc h id w' i a8 X);obtain⟨z,t⟩:=mn_ (rp (hX h) out l);rw[t]at V;have r:=U t;have ad:=U n;have MX:=h7 h;clear W hR hz hl t n
 go_enter func114,ntmps114
 go_wp2
 go_loopw [1,13] (λov N wr=>∃(i:Nat) (b:List Int) (p:OA) (s:Nat),i<=l.length/\N=Y i/\ov=.slice p b.length s/\Zr base wr p s b/\Hid (rp (hX h) b (l.drop i)=z)/\Hid (FO (hX h) b)/\Fx base [2] k wr) (λ_ N _=>l.length-(intOf N).toNat)
 case atStart=>exact⟨0,out,R,oc,N_ _,gn,rfl,dy,r,ad,.js (H _ _)⟩
 case round=>
  clear dy r ad;obtain⟨i,b,p,s,hk,rfl,rfl,K,r,C,o⟩:=hrel;have MV:=(o.bk hB).f_ 0;have aP:=o.size
  by_cases T:i<l.length
  .have ae:Vs wr A l:=o.sl cO;have x:Os wr hA h:=o.sl MU
   have t:l5 wr h:=λaj hr=>⟨o.sl (cD aj hr).1,(cD aj hr).2⟩
   obtain⟨ak,off,q,p0,p1⟩:=ae.at_ T
   have bu:=U (show rp (hX h) (oE (hX h) b l[i]) (l.drop (i+1))=z by
    have e:=r.out;rw[Q_ T]at e
    exact e)
   have m:=U (C.out.one l[i]);subst q;generalize l[i]=f at*;obtain⟨D,gb,bE,aM,a,br⟩:=box1 wr 38 #[.bool f.r,Y f.n];obtain⟨bq,bo⟩:=br.iC;have z0:=a.f_ MV J;have Z:=K.hF a;have L:=U (B.out f.n D (Sl.hF x a) (t.hF a));have bT:base<=D.heap.size:=ov a.size;have bB:b.length<=1000000000:=ov C.out.len;have al:b.length<=999999999:=ov C.out.len;have eA:Fx base [2] k D:=o.trans (.js a);clear ae x t K o r;obtain⟨am,hs⟩:=mn_ ((jl (hX h) f.n).isSome);rw[hs]at L
   go_upto_region 5 with(go_at_call 14;refine L.out.mono ?_;rintro e ag⟨aC,A',n',c',rfl,S⟩)
   obtain⟨j,F⟩:=mn_ (ag.alloc (.cells #[Y aC,.slice A' n' c'] 56))
   have u:I [] D j:=by rw[<-F];exact S.alloc _
   have P:=Z.hF u;have d:base<=j.heap.size:=ov u.size;have an:=u.f_ bq J;have ao:=u.f_ bo J;have G:Fx base [2] k j:=eA.trans (.js u);rw[F];clear bq bo Z S F u eA bE L z0
   have skip:oE (hX h) b f=b->∃(O:Nat) (E:List Int) (ar:OA) (au:Nat),O<=l.length/\Y (i+1:Nat)=Y O/\Value.slice p b.length s=.slice ar E.length au/\Zr base j ar au E/\Hid (rp (hX h) E (l.drop O)=z)/\Hid (FO (hX h) E)/\Fx base [2] k j:=λe=>⟨i+1,b,p,s,X,rfl,rfl,P,U (by have:=bu.out;rw[e]at this;exact this),C,G⟩
   cases aB:f.r with
   |false=>
    have bp:=U (skip (by unfold oE;rw[aB];simp));rw[aB]at an p0;exact LQ
   |true=>
    rw[aB]at an p0
    cases am with
    |false=>
     have bp:=U (skip (by unfold oE;rw[hs];simp));exact LQ
    |true=>
     have M:=U (uu p s b f.n j P.ls bB)
     by_cases y:x9 b f.n=0
     .have bp:=U (show oE (hX h) b f=b++[f.n] by unfold oE;rw[aB,hs,y];rfl);rw[bp.out]at bu m;rw[y]at M;have dg:=P.hF ((H [] j).alloc (.cells #[Y f.n] 2));have aw:=Ls.one j f.n;have cn:base<=(j.alloc (.cells #[Y f.n] 2)).heap.size:=p_;have ay:Fx base [2] k (j.alloc (.cells #[Y f.n] 2)):=G.trans (.js ((H [] j).alloc _));clear aB hs bp y skip G
      go_wp2_with (first|(go_at_call 115;refine M.out.mono ?_;rintro e MT⟨rfl,rfl⟩)|(at_builtin;refine BO dg aw cn p_ ?_;intro ap ai ax aD az))
      go_roundw
      case rel=>exact⟨i+1,b++[f.n],ap,ai,X,gn,J,aD,bu,m,ay.trans (.app az J)⟩
      case measure=>exact mz
     .have aA:(x9 b f.n==0)=false:=beq_eq_false_iff_ne.2 y;have bp:=U (skip (by unfold oE;rw[aB,hs,aA];rfl));generalize x9 b f.n=aE at*;clear aB hs y skip bu
      go_wp2_with (go_at_call 115;refine M.out.mono ?_;rintro e MT⟨rfl,rfl⟩)
      go_roundw
      case rel=>exact bp.out
      case measure=>exact mz
  .have bp:=U (show b=z by have e:=r.out;rw[GD X]at e;exact e);clear r;go_wp2;rw[V.out,<-bp.out];exact⟨p,s,rfl,K,(Fx.js v).trans o⟩
def yI(l:List Int)(v:Vl):Vl:=if v.r=true then⟨true,x9 l v.n⟩ else v
def tQ(l:List Int)(vs:List Vl):List Vl:=vs.map (yI l)
def Dm(w:World)(v:Vl):Sl (w.alloc (.cells #[.bool v.r,Y v.n] 38)) 38 2 (j_ w.heap.size) 1 (iO [v]):=
 ⟨rfl,λ_=>⟨_,0,#[.bool v.r,Y v.n],_,rfl,P_ w _ _,λe f b=>by simpa[iO,Vl.E]using b⟩⟩
def Fm{aB c n0:Nat}{xs:List Vl}{w:World}{A B:OA}{v:Vl}{rest:List Oper}{o:Oper}{s x:Operand}(ak:w.ownsRow base 38 2 (.slice B xs.length aB) xs.length (iO xs))(hr:Sl w 38 2 A 1 (iO [v]))(hb:base<=w.heap.size)(hn:xs.length<=1000000000)(h:∀(A':OA) (c':Nat) (w':World),w'.ownsRow base 38 2 (.slice A' (xs++[v]).length c') (xs++[v]).length (iO (xs++[v]))->App base 38 w w'->wpList prog ops Q rest (a.put o.dst (.slice A' (n0+1) c')) w')(L:o.guard=none:=by rfl)(ho:o.op=.call {callee:=.builtin .append,args:=#[s,x],argTypes:=#[54,54]}:=by rfl)(hs:a.eval s=.slice B n0 aB:=by rfl)(hx:a.eval x=.slice A 1 c:=by rfl)(cw:xs.length=n0:=by first|rfl|(simp;done)):
 wpList prog ops Q (o::rest) a w:=by
 obtain⟨bJ,bG,bA,a6,be⟩:=info_parts infoVl;subst cw
 refine iJ w L s x _ ho base 38 bJ _ 2 16 underlying54 bG bA a6 be rfl O O B xs.length aB (iO xs) hs ak A 1 c (iO [v]) hx hr (λu hu=>?_) X hb λA' c' w' h1 h2=>h A' c' w' ?_ h2
 .simp[iO,Vl.E]at hu
  rcases hu with rfl|rfl<;>rfl
 .rw[J_,show iO (xs++[v])=iO xs++iO [v] from by simp[iO]];exact h1
def sP{l:List Int}{vs:List Vl}(g A:OA)(lc c:Nat)(w:World)(h:Ls w g l)(hl:l.length<=1000000000)(hv:Vs w A vs)(hn:vs.length<=1000000000):
 Calls prog 76 #[.slice g l.length lc,.slice A vs.length c] w λe w'=>∃(A':OA) (c':Nat),e=.returned (.slice A' (tQ l vs).length c')/\Vs w' A' (tQ l vs)/\I [] w w':=by
 refine h5 λQ aq=>?_
 obtain⟨base,aK⟩:=nm_ w.heap.size;have ad:base<=w.heap.size:=X;have ae:w.heap.size<=base:=X;have k:=U (show[]++tQ l (vs.drop 0)=tQ l vs from rfl);generalize hR:tQ l vs=K at*
 go_enter func76,ntmps76
 go_wp2
 go_loopw [5,10] (λov M wr=>∃(i:Nat) (b:List Vl) (t:OA) (y:Nat),i<=vs.length/\M=Y i/\ov=.slice t b.length y/\wr.ownsRow base 38 2 (.slice t b.length y) b.length (iO b)/\Hid (b++tQ l (vs.drop i)=K)/\b.length<=i/\I [] w wr) (λ_ M _=>vs.length-(intOf M).toNat)
 case atStart=>exact⟨0,[],none,0,N_ _,gn,rfl,iT _ _ _ _,k,H_ _,H _ _⟩
 case round=>
  clear k;obtain⟨i,b,t,y,hk,rfl,rfl,z,k,cr,u⟩:=hrel;have aP:=u.size
  by_cases af:i<vs.length
  .have aB:Vs wr A vs:=Sl.hF hv u;obtain⟨ag,off,q,p0,p1⟩:=aB.at_ af
   have D:=U (show(b++[yI l vs[i]])++tQ l (vs.drop (i+1))=K by
    have e:=k.out;rw[Q_ af]at e;rw[Gc]
    exact e)
   subst q;generalize vs[i]=f at*;obtain⟨j,r,bE,aM,a,v⟩:=box1 wr 38 #[.bool f.r,Y f.n];obtain⟨bq,bo⟩:=v.iC;have C:=iy z a;have E:=u.trans a;have S:Ls j g l:=Sl.hF h E;have bB:b.length<=1000000000:=X;have bF:w.heap.size<=r:=X;clear aB k u
   cases s:f.r with
   |false=>
    have n:=U (show yI l f=f by unfold yI;rw[s];simp);rw[n.out]at D;have F:=Dm j f;rw[s]at p0 bq bE F;have R:=iy C ((H [] j).alloc (.cells #[.bool false,Y f.n] 38))
    have P:base<=(j.alloc (.cells #[.bool false,Y f.n] 38)).heap.size:=by have:=E.size;simp;omega
    have T:=E.alloc (.cells #[.bool false,Y f.n] 38);clear n s z C v S a
    go_wp2_with (at_builtin;refine Fm R F P bB ?_;intro O N ax L G)
    go_roundw
    case rel=>exact⟨i+1,b++[f],O,N,X,gn,J,L,D,p_,G.gr [] w ae T⟩
    case measure=>exact mz
   |true=>
    have n:=U (show yI l f=⟨true,x9 l f.n⟩ by unfold yI;rw[s];simp);rw[n.out]at D;have aS:=U (uu g lc l f.n j S hl);generalize x9 l f.n=d at*;obtain⟨o,W⟩:=mn_ (j.setCell (Z r 1) (Y d))
    have aj:I [r] j o:=by rw[<-W];exact(H [r] j).setCell (p:=Z r 1) (.inl J) _
    rw[s]at p0 bq bE v;have bM:=v.hG 1
    have b8:Bk o r 38 #[.bool true,Y d]:=by rw[<-W];simpa using v.hV 1 (Y d)
    obtain⟨bW,r1⟩:=b8.iC
    have bX:o.ownsRow base 38 2 (.slice t b.length y) b.length (iO b):=by
     refine ns C aj λx hx e=>?_
     have:=(kk z e).2
     rw[I_]at hx;omega
    have V:I [] w o:=E.hJ aj (λak hy=>.inr (by rw[I_]at hy;omega));have F:=Dm o ⟨true,d⟩;have R:=iy bX ((H [] o).alloc (.cells #[.bool true,Y d] 38))
    have P:base<=(o.alloc (.cells #[.bool true,Y d] 38)).heap.size:=by have:=V.size;simp;omega
    have T:=V.alloc (.cells #[.bool true,Y d] 38);clear n s z C S a bX
    go_wp2_with (first|(go_at_call 115;refine aS.out.mono ?_;rintro e MT⟨rfl,rfl⟩)|(at_builtin;refine Fm R F P bB ?_;intro O N ax L G))
    go_roundw
    case rel=>exact⟨i+1,b++[⟨true,d⟩],O,N,X,gn,J,L,D,p_,G.gr [] w ae T⟩
    case measure=>exact mz
  .have n:=U (show b=K by have e:=k.out;rw[GD X]at e;simpa[tQ]using e);clear k;go_wp2;rw[aq.out,<-n.out];exact⟨t,y,rfl,Sl.iR z,u⟩
def rX(h:List Ob)(n:Int):List Vl:=match jl h n with|some o=>o.fs|none=>[]
def vN(h:List Ob):Nat->Nat->List Int->List Int
 |0,_,out=>out
 |f+1,i,out=>match out[i]? with
  |none=>out
  |some n=>vN h f (i+1) (rp h out (rX h n))
def qk(h:List Ob)(F:Nat)(rs:List Vl):List Int:=vN h F 0 (rp h [] rs)
def FO.rp{h:List Ob}:∀(l:List Vl) {out:List Int},FO h out->FO h (rp h out l)
 |[],_,b=>b
 |v::r,_,b=>FO.rp r (b.one v)
def FO.vN{h:List Ob}:∀(f i:Nat) {out:List Int},FO h out->FO h (vN h f i out)
 |0,_,_,b=>b
 |f+1,i,out,b=>by
  unfold Go.Proofs.YtenbhdilndfaeaaGreat.vN;split
  .exact b
  .exact FO.vN f (i+1) (b.rp _)
def yk(h:List Ob):∀(l:List Vl) (out:List Int),out.length<=(rp h out l).length
 |[],_=>H_ _
 |v::r,out=>by
  have b:=yk h r (oE h out v)
  have e:out.length<=(oE h out v).length:=by unfold oE;split<;>simp
  exact G_ e b
def yj{l:List Rw}{B:Nat}(e:∀r∈l,r.o.fs.length<=B)(n:Int):(rX (hX l) n).length<=B:=by
 unfold rX
 cases b:jl (hX l) n with
 |none=>exact N_ _
 |some i=>
  have:=nN b
  obtain⟨r,f,rfl⟩:=FQ.1 this;exact e r f
def v_(l:List Rw)(id:Int)(w:World)(h:Os w A l)(p:l5 w l)(n:l.length<=1000000000):
 Calls prog 14 #[.agg #[.slice A l.length c],Y id] w λe w'=>∃(i:Int) (A':OA) (c':Nat) (b:Bool),e=.returned (.tuple #[.agg #[Y i,.slice A' (rX (hX l) id).length c'],.bool b])/\Vs w' A' (rX (hX l) id)/\I [] w w':=by
 unfold rX
 cases k:jl (hX l) id with
 |none=>exact(get_none A c l id w h n k).mono λe w'⟨f,j⟩=>⟨0,none,0,false,f,Gw _ _ _ _,j⟩
 |some o=>exact(get_some A c l id o w h p n k).mono λe w'⟨A',c',f,q,j⟩=>⟨o.id,A',c',true,f,q,j⟩
def xo(hA A:OA)(hc c y:Nat)(h:List Rw)(rs:List Vl)(w:World)(av:Os w hA h)(hR:l5 w h)(hn:h.length<=50000000)(hl:Vs w A rs)(bJ:rs.length<=1000000)(aY:h.length<y):
 Calls prog 75 #[.agg #[.slice hA h.length hc],.slice A rs.length c] w (lz (qk (hX h) y rs) w):=by
 refine h5 λQ aq=>?_
 obtain⟨s,g,aW,hg,M,hB⟩:=box1 w 35 #[.slice hA h.length hc];have MU:Os s hA h:=Sl.hF av M;have P:l5 s h:=hR.hF M;have cO:Vs s A rs:=Sl.hF hl M;obtain⟨base,aK⟩:=nm_ w.heap.size;have ae:base<=w.heap.size:=X;have aj:w.heap.size<=base:=X;have b0:base<=s.heap.size:=ov M.size;have ak:=U (wb (base:=base) (out:=[]) hA none A hc 0 c h rs s MU P hn Zr.nil b0 cO X ⟨HY,λx hx=>by cases hx⟩);have HG:=U (λ(w':World)(L:Fx base [2] s w')(id:Int)=>v_ hA hc h id w' (L.sl MU) (λE D=>⟨L.sl (P E D).1,(P E D).2⟩) X);have c6:=U (λ(id:Int)=>yj (λE D=>(hR E D).2) id);have al:=U (λ(w':World)(L:Fx base [2] s w')(out:List Int)(am B:OA)(oc d:Nat)(l:List Vl)(r:Zr base w' am oc out)(hv:Vs w' B l)(iN:l.length<=1000000000)(an:FO (hX h) out)=>wb hA am B hc oc d h l w' (L.sl MU) (λE D=>⟨L.sl (P E D).1,(P E D).2⟩) hn r (ov L.size) hv iN an);have ao:FO (hX h) (rp (hX h) [] rs):=FO.rp rs ⟨HY,λx hx=>by cases hx⟩;have z:=U (show vN (hX h) y 0 (rp (hX h) [] rs)=qk (hX h) y rs from rfl);have MX:=h7 h;generalize qk (hX h) y rs=ar at*;generalize rp (hX h) [] rs=bt at*;generalize az:hX h=f at*;have F:=hB.f_ 0;clear av hR hl az
 go_enter func75,ntmps75
 go_wp2_with (go_at_call 114;refine ak.out.mono ?_;rintro p w1⟨A1,c1,rfl,a6,au⟩)
 clear ak F
 go_loopw [5,6] (λov ah wr=>∃(i C:Nat) (out:List Int) (T:OA) (K:Nat),i<=out.length/\ah=Y i/\ov=.slice T out.length K/\Hid (vN f C i out=ar)/\Hid (FO f out)/\C+i=y/\out.length<=h.length/\Zr base wr T K out/\Fx base [2] s wr) (λ_ ah _=>h.length-(intOf ah).toNat)
 case atStart=>exact⟨0,y,bt,A1,c1,N_ _,gn,rfl,z,U ao,rfl,ov ao.len,a6,au⟩
 case round=>
  clear z ao a6 au;obtain⟨i,C,out,T,K,hi,rfl,rfl,z,aw,cV,aA,r,a⟩:=hrel
  by_cases af:i<out.length
  .obtain⟨aB,off,aC,bj⟩:=r.ls.at_ af;subst aC;obtain⟨aG,rfl⟩:∃aG,C=aG+1:=⟨C-1,X⟩
   have bu:=U (show vN f aG (i+1) (rp f out (rX f out[i]))=ar by
    have p:=z.out;rw[vN,K_ af]at p
    exact p)
   have aJ:=U (aw.out.rp (rX f out[i]));have b6:(rp f out (rX f out[i])).length<=h.length:=ov aJ.out.len;have aL:=yk f (rX f out[i]) out;generalize out[i]=x at*;have F:=(a.bk hB).f_ 0;have bi:=c6.out x;clear z
   go_upto_region 5 with fail
   go_cut [7] (λaN S=>∃(q:Nat) (v:Int) (n:OA) (t:Nat),aN=q_ q/\Bk S q 56 #[Y v,.slice n (rX f x).length t]/\Vs S n (rX f x)/\Zr base S (some (Z aB off)) K out/\Fx base [2] s S)
   case first=>
    refine hN (λw'=>w'.cell? (Z g 0)=some (.slice hA h.length hc)/\w'.cell? (Z aB (off+i))=some (Y x)) 12 k_ ?_;obtain⟨N,cf⟩:=nm_ wr.drew;have R:=cf▸(H [] wr).drew;rw[<-cf]
    refine m5 ⟨R.f_ F J,R.f_ bj J⟩ λb=>?_
    replace a:=a.trans (.js R);replace r:=r.hF R;clear cf R F bj
    (iterate 5 refine jQ b ?_)
    refine B7 5 9 (λj e=>?_) (λj e=>?_)
    .go_simp
     go_at_call 14
     refine(HG.out _ a x).mono ?_;rintro p G⟨v,n,t,bC,rfl,m,k⟩
     refine h4 e ⟨k.f_ b.1 J,k.f_ b.2 J⟩ λb=>?_
     clear e j
     iterate 3 refine jQ b ?_
     refine hZ 9 λj e=>?_
     go_simp;have aO:=b;have W:=P_ G 56 #[Y 0,n_];have u:I [] G (G.alloc (.cells #[Y 0,n_] 56)):=(H [] G).alloc _
     refine h4 e ⟨u.f_ b.1 J,u.f_ b.2 J⟩ λb=>?_
     clear e j
     refine hZ 10 λj e=>?_
     rw[U_ r_];refine ia 56 rfl G.heap.size r_ #[Y v,.slice n (rX f x).length t] r_ 56 W rfl k_ (by simp[Value.oneCell']) ?_;intro ax bT V;have o:=I.hJ (u) V J
     refine h4 e ⟨o.f_ aO.1 J,o.f_ aO.2 J⟩ λb=>?_
     clear e j;refine iv 11 b ?_;refine hM k_ ?_ _;go_wp2;go_meet;exact⟨_,v,n,t,rfl,bT,Sl.hF m o,(r.hF k).hF o,a.trans (.js (k.trans o))⟩
    .go_simp;have aP:=b;have W:=P_ N 56 #[Y 0,n_];have u:I [] N (N.alloc (.cells #[Y 0,n_] 56)):=(H [] N).alloc _
     refine h4 e ⟨u.f_ b.1 J,u.f_ b.2 J⟩ λb=>?_
     clear e j
     refine hZ 5 λj e=>?_
     go_simp
     go_at_call 14
     refine(HG.out _ (a.trans (.js u)) x).mono ?_;rintro p G⟨v,n,t,bC,rfl,m,k⟩
     refine h4 e ⟨k.f_ b.1 J,k.f_ b.2 J⟩ λb=>?_
     clear e j
     iterate 3 refine jQ b ?_
     refine hZ 10 λj e=>?_
     rw[U_ r_];refine ia 56 rfl N.heap.size r_ #[Y v,.slice n (rX f x).length t] r_ 56 (W.hF k) rfl k_ (by simp[Value.oneCell']) ?_;intro ax bT V;have o:=I.hJ (u.trans k) V J
     refine h4 e ⟨o.f_ aP.1 J,o.f_ aP.2 J⟩ λb=>?_
     clear e j;refine iv 11 b ?_;refine hM k_ ?_ _;go_wp2;go_meet;exact⟨_,v,n,t,rfl,bT,Sl.it m (W.hF k) O V,r.hF o,a.trans (.js o)⟩
   case rest=>
    obtain⟨q,v,n,t,rfl,j,m,N,b⟩:=hcut;clear r a F bj;have F:=(b.bk hB).f_ 0;have R:=j.f_ 1;have G:=U (al.out wc b out (some (Z aB off)) n K t (rX f x) N m X aw.out)
    go_wp2_with (go_at_call 114;refine G.out.mono ?_;rintro p ax⟨u,o,rfl,k,e⟩)
    go_roundw
    case rel=>exact⟨i+1,aG,_,u,o,X,gn,rfl,bu,aJ,X,b6,k,b.trans e⟩
    case measure=>exact mz
  .have b:=U (show out=ar by
    have p:=z.out
    cases C with
    |zero=>exact p
    |succ C=>rw[vN,F2 X]at p;exact p)
   clear z aw;go_wp2;rw[aq.out,<-b.out];unfold lz;exact⟨T,K,rfl,r.ls,iY r,a.gr w aj M⟩
def Ab(x y:Vl)(w:World)(h:x=y):(binOp .neq 38 (.agg (V_ x)) (.agg (V_ y))).run prog w=.ok (.bool false) w:=by
 subst h;obtain⟨e,b⟩:=x;go_simp
def yZ(d:Nat)(l:List Vl)(w:World)(h:Vs w A l)(k:Vs w B l)(K:l.length<=1000000000):
 Calls prog 38 #[.slice A l.length c,.slice B l.length d] w λe w'=>e=.returned (.bool true)/\I [] w w':=by
 refine h5 λQ D=>?_
 go_enter func38,ntmps38
 go_wp2
 go_loopw [13] (λo wr=>∃b:Nat,b<=l.length/\o=Y b/\I [] w wr) (λo _=>l.length-(intOf o).toNat)
 case atStart=>exact⟨0,N_ _,gn,H _ _⟩
 case round=>
  obtain⟨b,G,rfl,n⟩:=hrel
  by_cases p:b<l.length
  .obtain⟨r,u,hA,v,y⟩:=(show Vs wr A l from Sl.hF h n).at_ p;obtain⟨s,q,E,t,z⟩:=(show Vs wr B l from Sl.hF k n).at_ p;subst hA;subst E;generalize l[b]=i at*
   have F:=λC=>Ab i i C rfl
   go_upto_region 6 with fail
   refine hN (λw'=>w'.cell? (Z r (u+b*2))=some (.bool i.r)/\w'.cell? (Z r (u+b*2+1))=some (Y i.n)/\w'.cell? (Z s (q+b*2))=some (.bool i.r)/\w'.cell? (Z s (q+b*2+1))=some (Y i.n)) 9 k_ ?_;have j:I [] wr wr.drew:=(H [] wr).drew
   refine m5 ⟨j.f_ v J,j.f_ y J,j.f_ t J,j.f_ z J⟩ λf=>?_
   clear v y t z;refine iv 0 f ?_;refine iv 1 f ?_;refine iv 2 f ?_;refine iv 3 f ?_;refine iv 4 f ?_;refine iv 5 f ?_;refine iv 6 f ?_;refine iv 7 f ?_;refine iv 8 f ?_;refine hM k_ ?_ _;go_wp2;go_roundw
   case rel=>exact⟨b+1,X,gn,n.trans j⟩
   case measure=>exact mz
  .go_wp2;rw[D.out];exact⟨rfl,n⟩
def Ax(d:Nat)(i:Int)(l:List Vl)(w:World)(h:Vs w A l)(k:Vs w B l)(hl:l.length<=1000000000):
 Calls prog 109 #[.agg #[Y i,.slice A l.length c],.agg #[Y i,.slice B l.length d]] w λe w'=>e=.returned (.bool true)/\I [] w w':=by
 refine h5 λQ P=>?_
 obtain⟨p,g,N,W,hg,V,o,S,R⟩:=tJ w 56 #[Y i,.slice A l.length c] 56 #[Y i,.slice B l.length d];obtain⟨L,z⟩:=S.iC;obtain⟨U,C⟩:=R.iC;have hA:=Sl.hF h o;have T:=Sl.hF k o
 go_enter func109,ntmps109
 go_wp2
 go_loopw [23] (λq wr=>∃i:Nat,i<=l.length/\q=Y i/\I [] p wr) (λq _=>l.length-(intOf q).toNat)
 case atStart=>exact⟨0,N_ _,gn,H _ _⟩
 case round=>
  obtain⟨i,hi,rfl,j⟩:=hrel
  by_cases D:i<l.length
  .obtain⟨s,v,O,F,G⟩:=(show Vs wr A l from Sl.hF hA j).at_ D;obtain⟨t,r,M,E,K⟩:=(show Vs wr B l from Sl.hF T j).at_ D;have u:=j.f_ z J;have y:=j.f_ C J;rw[O]at u;rw[M]at y;generalize l[i]=n at*
   have ao:=λp=>Ab n n p rfl
   go_upto_region 6 with fail
   refine hN (λw'=>w'.cell? (Z s (v+i*2))=some (.bool n.r)/\w'.cell? (Z s (v+i*2+1))=some (Y n.n)/\w'.cell? (Z t (r+i*2))=some (.bool n.r)/\w'.cell? (Z t (r+i*2+1))=some (Y n.n)/\w'.cell? (Z g 1)=some (.slice (some (Z s v)) l.length c)/\w'.cell? (Z N 1)=some (.slice (some (Z t r)) l.length d)) 11 k_ ?_;have f:I [] wr wr.drew:=(H [] wr).drew
   refine m5 ⟨f.f_ F J,f.f_ G J,f.f_ E J,f.f_ K J,f.f_ u J,f.f_ y J⟩ λb=>?_
   clear F G E K u y L z U C;refine iv 0 b ?_;refine iv 1 b ?_;refine iv 2 b ?_;refine iv 3 b ?_;refine iv 4 b ?_;refine iv 5 b ?_;refine iv 6 b ?_;refine iv 7 b ?_;refine iv 8 b ?_;refine iv 9 b ?_;refine iv 10 b ?_;refine hM k_ ?_ _;go_wp2;go_roundw
   case rel=>exact⟨i+1,X,gn,j.trans f⟩
   case measure=>exact mz
  .go_wp2;rw[P.out];exact⟨rfl,o.trans j⟩
def yY(d:Nat)(l k:List Rw)(w:World)(V:Os w A l)(hR:l5 w l)(a:Os w B k)(ag:l5 w k)(K:hX l=hX k)(hl:l.length<=1000000000):
 Calls prog 72 #[.slice A l.length c,.slice B l.length d] w λe w'=>e=.returned (.bool true)/\I [] w w':=by
 refine h5 λQ T=>?_
 have bT:k.length=l.length:=by rw[<-h7,<-h7,K]
 have bp:=U (show ∀(b:Nat) (F:b<l.length) (G:b<k.length),k[b].o=l[b].o from λb F G=>by
  have e:(hX l)[b]?=(hX k)[b]?:=by rw[K]
  simp[hX,K_ F,K_ G]at e
  exact e.symm)
 go_enter func72,ntmps72
 go_wp2
 go_loopw [13] (λs wr=>∃b:Nat,b<=l.length/\s=Y b/\I [] w wr) (λs _=>l.length-(intOf s).toNat)
 case atStart=>exact⟨0,N_ _,gn,H _ _⟩
 case round=>
  obtain⟨b,hi,rfl,j⟩:=hrel
  by_cases r:b<l.length
  .obtain⟨C,L,S,M,N⟩:=(show Os wr A l from Sl.hF V j).at_ r;have q:b<k.length:=X;obtain⟨D,z,R,t,u⟩:=(show Os wr B k from Sl.hF a j).at_ q;subst S;subst R;obtain⟨hv,W⟩:=hR.hF j _ (O_ r);obtain⟨g, -⟩:=ag.hF j _ (O_ q);rw[bp.out b r q]at t u g;generalize k[b].A=m at*;generalize k[b].c=E at*;generalize l[b]=f at*;have y:=U (λ(w':World)(h:I [] wr w')=>Ax f.A m f.c E f.o.id f.o.fs w' (Sl.hF hv h) (Sl.hF g h) W)
   go_upto_region 6 with fail
   refine hN (λw'=>w'.cell? (Z C (L+b*2))=some (Y f.o.id)/\w'.cell? (Z C (L+b*2+1))=some (.slice f.A f.o.fs.length f.c)/\w'.cell? (Z D (z+b*2))=some (Y f.o.id)/\w'.cell? (Z D (z+b*2+1))=some (.slice m f.o.fs.length E)) 10 k_ ?_;have n:I [] wr wr.drew:=(H [] wr).drew
   refine m5 ⟨n.f_ M J,n.f_ N J,n.f_ t J,n.f_ u J⟩ λi=>?_
   have P:=U (y.out _ n);clear M N t u y
   (iterate 8 refine jQ i ?_)
   refine hZ 8 λO v=>?_
   go_simp
   go_at_call 109
   refine P.out.mono ?_;rintro e ad⟨rfl,p⟩
   refine h4 v ⟨p.f_ i.1 J,p.f_ i.2.1 J,p.f_ i.2.2.1 J,p.f_ i.2.2.2 J⟩ λi=>?_
   clear v O;refine iv 9 i ?_;refine hM k_ ?_ _;go_wp2;go_roundw
   case rel=>exact⟨b+1,X,gn,(j.trans n).trans p⟩
   case measure=>exact mz
  .go_wp2;rw[T.out];exact⟨rfl,j⟩
def ur(d:Nat)(l k:List Rw)(w:World)(p:Os w A l)(t:l5 w l)(a:Os w B k)(v:l5 w k)(f:hX l=hX k)(u:l.length<=1000000000):
 Calls prog 30 #[.agg #[.slice A l.length c],.agg #[.slice B k.length d]] w λe w'=>e=.returned (.bool true)/\I [] w w':=by
 have q:k.length=l.length:=by rw[<-h7,<-h7,f]
 rw[q]
 refine h5 λQ o=>?_
 obtain⟨j,g,C,D,F,y,b,s,r⟩:=tJ w 35 #[.slice A l.length c] 35 #[.slice B l.length d];have z:=s.f_ 0;have G:=r.f_ 0;have n:=U (yY A B c d l k j (Sl.hF p b) (t.hF b) (Sl.hF a b) (v.hF b) f u)
 go_enter func30,ntmps30
 go_wp2_with (go_at_call 72;refine n.out.mono ?_;rintro e E⟨rfl,i⟩)
 rw[o.out];exact⟨rfl,b.trans i⟩
def zS(h:List Ob)(l:List Int):Nat->List Int->List Ob
 |_,[]=>[]
 |k,n::r=>⟨(k:Int)+1,tQ l (rX h n)⟩::zS h l (k+1) r
def B8(l:List Int)(vs:List Vl):(tQ l vs).length=vs.length:=Ge _
def EX(w:World)(r:Rw):Sl (w.alloc (.cells #[Y r.o.id,.slice r.A r.o.fs.length r.c] 56)) 56 2 (j_ w.heap.size) 1 (iV [r]):=
 ⟨rfl,λ_=>⟨_,0,#[Y r.o.id,.slice r.A r.o.fs.length r.c],_,rfl,P_ w _ _,λe f b=>by simpa[iV,Rw.E]using b⟩⟩
def Fv{aB c n0:Nat}{xs:List Rw}{w:World}{B:OA}{r:Rw}{o:Oper}{K:Act->World->Prop}{E:Prop}{s x:Operand}(ak:w.ownsRow base 56 2 (.slice B xs.length aB) xs.length (iV xs))(hr:Sl w 56 2 (j_ g) 1 (iV [r]))(hb:base<=w.heap.size)(hn:xs.length<=1000000000)(h:∀(A':OA) (c':Nat) (w':World),w'.ownsRow base 56 2 (.slice A' (xs++[r]).length c') (xs++[r]).length (iV (xs++[r]))->App base 56 w w'->(∀k,k<w.heap.size->some k≠(Value.slice B xs.length aB).ownBlock->w'.heap[k]?=w.heap[k]?)->K (a.put o.dst (.slice A' (n0+1) c')) w')(L:o.guard=none:=by rfl)(ho:o.op=.call {callee:=.builtin .append,args:=#[s,x],argTypes:=#[33,33]}:=by rfl)(hs:a.eval s=.slice B n0 aB:=by rfl)(hx:a.eval x=.slice (j_ g) 1 c:=by rfl)(cw:xs.length=n0:=by first|rfl|(simp;done)):
 if Region.wanted o (yielded ops a.tmps)=true then Oper.wp prog o a w K Q else E:=by
 obtain⟨bJ,bG,bA,a6,be⟩:=info_parts infoOb;subst cw
 have aE:Region.wanted o (yielded ops a.tmps)=true:=by simp[Region.wanted,L]
 rw[U_ aE];obtain⟨d,he,j⟩:=hr.mW X;injection he with he;subst he;obtain⟨v',w',N,h2,h3,_⟩:=run_append_own (P:=prog) w base 33 o.type 56 bJ _ 2 32 underlying33 bG bA a6 be rfl O _ xs.length (iV xs) ak (Z g 0) 1 c (iV [r]) rfl j (jT [r]) (by simp only[maxLen];omega) X hb;have hf:∃A' c',v'=.slice A' (xs.length+1) c':=Lc;obtain⟨A',c',rfl⟩:=hf;unfold Oper.wp execOp;simp only[ho,resolve,invoke,builtin,Sem.run_bind,Sem.run_pure,Result.andThen_ok,G6,Gm,GZ,hs,hx,N];refine h A' c' w' ?_ (App.iW ak h3) h3.block;rw[J_,lP];exact h2
def tH(hA A:OA)(hc c v:Nat)(h:List Rw)(rs:List Vl)(w:World)(av:Os w hA h)(hR:l5 w h)(hn:h.length<=50000000)(hl:Vs w A rs)(bJ:rs.length<=1000000)(aY:h.length<v):
 Calls prog 37 #[.agg #[.slice hA h.length hc],.slice A rs.length c] w λe w'=>∃(A' B:OA) (c' d:Nat) (f:List Rw),e=.returned (.tuple #[.agg #[.slice A' f.length c'],.slice B (tQ (qk (hX h) v rs) rs).length d])/\hX f=zS (hX h) (qk (hX h) v rs) 0 (qk (hX h) v rs)/\Os w' A' f/\l5 w' f/\Vs w' B (tQ (qk (hX h) v rs) rs)/\f.length<=50000000/\I [] w w':=by
 refine h5 λQ aq=>?_
 obtain⟨t,g,al,aW,hg,MS,MZ,hB,bQ⟩:=tJ w 35 #[.slice hA h.length hc] 35 #[n_];have MU:Os t hA h:=Sl.hF av MZ;have cD:l5 t h:=hR.hF MZ;have cO:Vs t A rs:=Sl.hF hl MZ;obtain⟨base,aK⟩:=nm_ t.heap.size;have b0:base<=t.heap.size:=X;have bn:t.heap.size<=base:=X;have an:=U (xo hA A hc c v h rs t MU cD hn cO bJ aY);have HG:=U (λ(w':World)(i:I [] t w')(id:Int)=>v_ hA hc h id w' (Sl.hF MU i) (cD.hF i) X);have c6:=U (λ(id:Int)=>yj (λK o=>(hR K o).2) id);have aA:FO (hX h) (qk (hX h) v rs):=FO.vN _ _ (FO.rp rs ⟨HY,λx hx=>by cases hx⟩)
 have a2:(qk (hX h) v rs).length<=50000000:=by have:=aA.len;rw[h7]at this;omega
 generalize qk (hX h) v rs=b at*;have N:=U (show([]:List Ob)++zS (hX h) b 0 (b.drop 0)=zS (hX h) b 0 b from rfl);generalize bd:zS (hX h) b 0 b=bf at*;generalize az:hX h=M0 at*;have aR:=hB.f_ 0;have aI:=bQ.f_ 0;clear av hR hl az aA bd
 go_enter func37,ntmps37
 go_upto_region 3 with(go_at_call 75;refine an.out.mono ?_;unfold lz;rintro e w1⟨A1,c1,rfl,hl1, -,hg1⟩)
 obtain⟨am,u,b9,aQ,bh,L⟩:=box1 w1 35 #[n_];rw[b9,aQ];have b6:=Sl.hF hl1 bh;have aT:=hg1.trans bh;have aG:base<=u:=ov hg1.size;clear an hl1 hg1 bh b9 aQ aR aI
 go_wp2_with fail
 go_loopw [17] (λah wr=>∃(i:Nat) (f:List Rw) (y:OA) (C:Nat),i<=b.length/\ah=Y i/\Bk wr u 35 #[.slice y f.length C]/\wr.ownsRow base 56 2 (.slice y f.length C) f.length (iV f)/\l5 wr f/\Hid (hX f++zS M0 b i (b.drop i)=bf)/\f.length<=i/\I [] t wr/\Fx base [35,56] am wr) (λah _=>b.length-(intOf ah).toNat)
 case atStart=>exact⟨0,[],none,0,N_ _,gn,L,iT _ _ _ _,(λK o=>by cases o),N,H_ _,aT,.js (H _ _)⟩
 case round=>
  clear N L aT;obtain⟨i,f,y,C,hk,rfl,L,hz,bk,N,cr,S,a⟩:=hrel;have bm:Ls wr A1 b:=a.sl b6;have aR:=(hB.hF S).f_ 0
  by_cases af:i<b.length
  .obtain⟨bv,off,ae,bj⟩:=bm.at_ af
   have bu:=U (show(hX f++[⟨(i:Int)+1,tQ b (rX M0 b[i])⟩])++zS M0 b (i+1) (b.drop (i+1))=bf by
    have e:=N.out;rw[Q_ af]at e;rw[Gc]
    exact e)
   generalize b[i]=x at*;have bi:=c6.out x;have aL:=U (HG.out wr S x);generalize rX M0 x=r at*;have aP:=S.size;clear N;have bB:=ae;rw[ae]at bm;have aM:=U bm;clear bm;subst ae
   go_upto_region 7 with(go_at_call 14;refine aL.out.mono ?_;rintro e ag⟨aC,A',c',bC,rfl,bx,bE⟩)
   obtain⟨bK,q,bF,ao,bI,aO⟩:=box1 ag 56 #[Y aC,.slice A' r.length c'];rw[bF,ao];have R:=bE.trans bI;have bo:=aO.f_ 1;have m:Vs bK A' r:=Sl.hF bx bI;have aB:=L.hF R;have z0:=aB.f_ 0;have dx:=iy hz R;have ak:=bk.hF R;have aV:=S.trans R;have aS:=a.trans (.js R);have au:Ls bK (some (Z bv off)) b:=Sl.hF aM.out R
   have bw:some q≠(Value.slice y f.length C).ownBlock:=λe=>by
    have h1:=(kk hz e.symm).2;have h2:=bE.size;omega
   clear aL aM bx bE bI bF ao L hz bk S a R bj aR;have p7:IntKind.i64.wrap ((i:Int)+1)=(i:Int)+1:=F5 _ X;refine hN (λw'=>w'.cell? (Z u 0)=some (.slice y f.length C)/\w'.cell? (Z q 1)=some (.slice A' r.length c')) 12 k_ ?_;obtain⟨G,M⟩:=nm_ bK.drew;have k:=M▸(H [] bK).drew;rw[<-M];have aw:=aB.hF k;have bX:=iy dx k;have aj:=ak.hF k;have W:=aV.trans k;have be:=aS.trans (.js k);have ai:Ls G (some (Z bv off)) b:=Sl.hF au k;have ap:Vs G A' r:=Sl.hF m k
   refine m5 ⟨k.f_ z0 J,k.f_ bo J⟩ λn=>?_
   clear M aB dx ak aV aS au m z0 bo
   (iterate 7 refine jQ n ?_)
   try rw[p7]
   refine hZ 7 λs j=>?_
   go_simp
   go_at_call 76
   refine(sP (some (Z bv off)) A' c1 c' G ai X ap X).mono ?_;rintro e P⟨E,D,rfl,MV,z⟩
   refine h4 j ⟨z.f_ n.1 J,z.f_ n.2 J⟩ λn=>?_
   clear j s;refine iv 8 n ?_
   refine hZ 9 λs j=>?_
   go_simp;have a6:=EX P ⟨⟨(i:Int)+1,tQ b r⟩,E,D⟩;simp only at a6;have aF:I [] P (P.alloc (.cells #[Y ((i:Int)+1),.slice E (tQ b r).length D] 56)):=(H [] P).alloc _
   refine h4 j ⟨aF.f_ n.1 J,aF.f_ n.2 J⟩ λn=>?_
   clear j s;have l:=z.trans aF;have aD:=iy bX l;have cn:base<=(P.alloc (.cells #[Y ((i:Int)+1),.slice E (tQ b r).length D] 56)).heap.size:=ov ((W.trans l).size)
   refine hZ 10 λs j=>?_
   refine Fv aD a6 cn X ?_;intro bZ cg V eF bL bD;have F:=bL.bk (aw.hF l) O
   have bt:V.cell? (Z q 1)=some (.slice A' r.length c'):=by
    have aZ:=(aO.hF k).hF l;have e:=bD q aZ.lt bw
    have b4:Bk V q 56 #[Y aC,.slice A' r.length c']:=by
     unfold Bk at aZ |-;rw[e];exact aZ
    exact b4.f_ 1
   refine h4 j ⟨F.f_ 0,bt⟩ λn=>?_
   clear j s;refine iv 11 n ?_
   refine hZ 12 λs j=>?_
   have bG:=F.f_ 0;have ad:=F.hG 0;go_simp;have T:I [u] V (V.setCell (Z u 0) (.slice bZ (f.length+1) cg)):=(H [u] V).setCell (p:=Z u 0) (.inl J) _;have dE:=F.hV 0 (.slice bZ (f.length+1) cg);obtain⟨bH,bg⟩:=mn_ (V.setCell (Z u 0) (.slice bZ (f.length+1) cg));rw[bg]at T dE;rw[bg];refine j.out _ _ (λaf=>FU af O) ?_;clear j s;refine hM k_ ?_ _;go_wp2;go_roundw
   case rel=>
    refine⟨i+1,f++[⟨⟨(i:Int)+1,tQ b r⟩,E,D⟩],bZ,cg,X,gn,by simpa using dE,kD eF F O T,?_,?_,p_,?_,be.trans (((Fx.js l).trans (.app bL J)).trans (.one T F aG J))⟩
    .intro K o
     rcases X_.1 o with o|o
     .exact⟨(((Fx.js l).trans (.app bL J)).trans (.one T F aG J):Fx base [35,56] G bH).sl (aj K o).1,(aj K o).2⟩
     .rw[I_]at o;subst o;exact⟨(((Fx.js aF).trans (.app bL J)).trans (.one T F aG J):Fx base [35,56] P bH).sl MV,by show(tQ b r).length<=_;rw[B8];omega⟩
    .exact U (by have:=bu.out;rw[show hX (f++[⟨⟨(i:Int)+1,tQ b r⟩,E,D⟩])=hX f++[⟨(i:Int)+1,tQ b r⟩] from by simp[hX]];exact this)
    .exact(bL.gr [] t bn (W.trans l)).hJ T (λbN hy=>.inr (by rw[I_]at hy;omega))
   case measure=>exact mz
  .have bp:=U (show hX f=bf by
    have e:=N.out;rw[GD X]at e
    simpa[zS]using e)
   clear N;have bq:u≠al:=ov bQ.lt
   go_upto_region 9 with fail
   refine hN (λw'=>w'.cell? (Z u 0)=some (.slice y f.length C)) 6 k_ ?_;obtain⟨G,M⟩:=nm_ wr.drew;have k:=M▸(H [] wr).drew;rw[<-M];have aw:=L.hF k;have W:=S.trans k;have T:=bQ.hF W;have bX:=iy hz k;have aj:=bk.hF k;have ai:Ls G A1 b:=Sl.hF bm k;have ap:Vs G A rs:=Sl.hF cO W;have bR:=U (λ(w':World)(bz:Ls w' A1 b)(V:Vs w' A rs)=>sP A1 A c1 c w' bz X V X);have bA:f.length<=50000000:=X
   refine m5 (aw.f_ 0) λn=>?_
   clear M L hz bk S a bm k aR af
   (iterate 3 refine jQ n ?_)
   refine hZ 3 λs j=>?_
   .go_simp
    go_at_call 76
    refine(bR.out G ai ap).mono ?_;rintro e P⟨E,D,rfl,MV,z⟩;have R:=aw.hF z;have F:=T.hF z
    refine h4 j (R.f_ 0) λn=>?_
    clear j s
    refine hZ 4 λs j=>?_
    rw[U_ r_];refine ia 35 rfl al r_ #[.slice y f.length C] r_ 35 F rfl k_ (by simp[Value.oneCell']) ?_;intro aJ bl r
    refine h4 j ((R.gr r (zu bq)).f_ 0) λn=>?_
    clear j s;refine iv 5 n ?_;refine hM k_ ?_ _;go_wp2;refine lO #[.slice y f.length C] (.slice E (tQ b rs).length D) bl underlying35 ?_;rw[aq.out];exact⟨y,E,C,D,f,rfl,bp.out,Sl.it (Sl.iR (iy bX z)) F O r,λK o=>⟨Sl.it ((aj.hF z) K o).1 F O r,(aj K o).2⟩,Sl.it MV F O r,bA,(MZ.trans (W.trans z)).hJ r (λbN hy=>.inr (by rw[I_]at hy;omega))⟩
def FL.j1{t:i3}(h:FL t.nw)(c:Cl):FL (j1 t c).nw:=by
 unfold Go.Proofs.YtenbhdilndfaeaaGreat.j1;split
 .exact h
 .intro n j;obtain⟨k,i,b⟩:=Hm j;have f:k<t.nw.length:=zu i;have e:=h _ (O_ f);rw[GJ]at b;split at b
  .rw[<-b];unfold uz;dsimp only;split
   .rw[F1];exact e
   .exact e
  .rw[<-b];exact e
def FL.jw{t t':i3}(h:FL t.nw){id f:Int}(b:jw t view id f=some t'):FL t'.nw:=by
 unfold Go.Proofs.YtenbhdilndfaeaaGreat.jw at b;split at b
 .injection b with b;subst b;exact h
 .split at b
  .cases b
  .split at b
   .cases b
   .injection b with b;subst b;refine FL.j1 ?_ _;exact h
def B9{t t':i3}{d:Dl}(b:take t d=some t'):t'.nw=t.nw:=by
 unfold take at b;split at b
 .cases b
 .split at b
  .injection b with b;subst b
   rfl
  .split at b
   .cases b
   .injection b with b;subst b
    rfl
def s5:∀(l:List Dl) (t:i3) (rs ws:List Cl),(jN t rs ws l).1.nw=t.nw
 |[],_,_,_=>rfl
 |d::l,t,rs,ws=>by
  unfold jN
  cases b:take t d with
  |none=>exact s5 l t rs ws
  |some t'=>exact(s5 l t' _ _).trans (B9 b)
def FL.j4{view:List Ob}:∀(l:List Cl) {t t':i3},FL t.nw->j4 view t l=some t'->FL t'.nw
 |[],t,t',h,e=>by injection e with e;subst e;exact h
 |c::l,t,t',h,e=>by
  unfold Go.Proofs.YtenbhdilndfaeaaGreat.j4 at e
  cases b:qi view t c with
  |none=>rw[b]at e;cases e
  |some f=>
   rw[b]at e;refine FL.j4 l ?_ e;unfold qi at b;split at b
   .injection b with b;subst b;exact h
   .split at b
    .exact h.jw b
    .injection b with b;subst b;exact h
def FL.kt{view:List Ob}:∀(l:List Cl) {t t':i3},FL t.nw->kt view t l=some t'->FL t'.nw
 |[],t,t',h,e=>by injection e with e;subst e;exact h
 |c::l,t,t',h,e=>by
  unfold Go.Proofs.YtenbhdilndfaeaaGreat.kt at e
  cases b:r6 view t c with
  |none=>rw[b]at e;cases e
  |some j=>
   rw[b]at e;refine FL.kt l ?_ e;unfold r6 at b
   cases f:Go.Proofs.YtenbhdilndfaeaaGreat.jw t view c.id c.f with
   |none=>rw[f]at b;cases b
   |some i=>rw[f]at b;injection b with b;subst b;exact(h.jw f).j1 _
def FL.app{a b:List Ob}(h:FL a)(k:FL b):FL (a++b):=λe f=>(X_.1 f).elim (h e) (k e)
def FL.record{t t':i3}{e:p8}(h:FL t.nw)(p:FL e.nw)(b:record t view e=some t'):FL t'.nw:=by
 unfold Go.Proofs.YtenbhdilndfaeaaGreat.record at b;dsimp only at b;have o:=s5 e.ds t e.rs e.ws;generalize jN t e.rs e.ws e.ds=a at*
 cases f:Go.Proofs.YtenbhdilndfaeaaGreat.j4 view a.1 a.2.1 with
 |none=>rw[f]at b;cases b
 |some j=>
  rw[f]at b;dsimp only at b;have n:=FL.j4 _ (by rw[o];exact h) f
  cases i:Go.Proofs.YtenbhdilndfaeaaGreat.kt view {j with nw:=j.nw++e.nw} a.2.2 with
  |none=>rw[i]at b;cases b
  |some k=>rw[i]at b;injection b with b;subst b;show FL k.nw;refine FL.kt _ ?_ i;exact n.app p
def FL.step{c:List In}{hH hC:Int}{t:i3}(j:ic c hH hC=true)(h:FL t.nw):FL (jd c hH hC d t view).nw:=by
 have f:=Cu j t.pc t.r (jq t view) ((t.run+1)*1048576+t.nw.length);unfold jd;dsimp only;generalize lq c hH hC t.pc t.r (jq t view) ((t.run+1)*1048576+t.nw.length)=e at*;split
 .exact h
 split
 .exact h
 cases i:Go.Proofs.YtenbhdilndfaeaaGreat.record t view e with
 |none=>exact h
 |some x=>
  have b:=h.record f i;dsimp only;split
  .exact b
  split<;>exact b
def zH{l:List In}{hH hC hQ run:Int}{ik:Bool}:FL (jn l hH hC hQ run ik).1.nw:=by
 rw[uI];intro e b
 cases b
def wJ.fl{l:List In}{hH hC:Int}{h:List Ob}{run:Int}{n:Nat}{ts:List i3}(o:ic l hH hC=true)(j:wJ l hH hC d h run n ts):∀t∈ts,FL t.nw:=by
 induction j with
 |hQ ts p k=>
  intro t b;obtain⟨i,e,rfl⟩:=Hm b;obtain⟨x,q,_,f⟩:=k i e;rw[f];exact zH
 |step i e k p f=>
  intro t b
  rcases F3 b with b|rfl
  .exact f t b
  .exact(f _ (O_ e)).step o
def qr(l:List Cl):(ld l).length<=2*l.length:=by
 induction l with
 |nil=>simp[ld]
 |cons c l b=>
  unfold ld at b |-;simp only[Ga,J_,FK]
  have:(qh c.v).length<=1:=by unfold qh;split<;>simp
  omega
def s3:∀{h:List Ob},FL h->(kd h).length<=70*h.length
 |[],_=>by simp[kd]
 |o::h,b=>by
  have e:=s3 (h:=h) λx f=>b x (FX _ f)
  have i:=b o Gi
  have j:(lZ o.fs).length<=o.fs.length:=by unfold lZ;rw[Ge];exact Gx _ _
  unfold kd at e |-;simp only[Ga,J_,FK];omega
def xa{t:i3}(e:FL t.nw)(b:t.sm 500000):(nG t).length<=38500000:=by
 have p:=qr t.gs;have q:=qr t.rs;have r:=qr t.ws;have o:=s3 e;have i:=b.gs;have f:=b.rs;have j:=b.ws;have k:=b.nw;have n:=b.ds;unfold nG;simp only[J_,Ge];omega
def y2:∀{ts:List i3} {n:Nat},(∀t∈ts,(nG t).length<=n)->(k1 ts).length<=1+ts.length*n:=by
 intro ts n h;unfold k1;rw[FK]
 suffices (ts.flatMap nG).length<=ts.length*n by omega
 induction ts with
 |nil=>simp
 |cons t ts b=>
  have:=b λx e=>h x (FX _ e)
  have:=h t Gi
  simp only[Ga,J_,FK,G1];omega
def xU.ne{run n:Int}(h:xU run n):n≠0:=by
 rcases h with h|h|⟨j,i,b,_,e,_,f⟩<;>omega
def Md.hm{w:World}(i:rC w m)(b:CY m):HM w m.s.h.A m.s.h.l:=by
 obtain⟨t,run,s,hc,_⟩:=b.cm;have e:=(hc.cb b.val).1.h;have j:m.s.p.h=hX m.s.h.l:=rfl;have a:=(hc.ci b.val (ks b.val).2.1).2;have f:=hc.gX D8 b.val X;rw[j]at e a f;rw[h7]at e;refine⟨⟨_,i.s.h.os.e⟩,⟨_,i.s.h.k5.e⟩,X,λp=>(a.old 0 p).ne rfl,λx n=>?_⟩;obtain⟨o,k,rfl⟩:=FQ.1 n;obtain⟨q,r⟩:=f.ids o k;exact WalkArith.wf_i64 X
def Md.tm{w:World}(o:rC w m)(j:CY m):TM w m.tA m.ts:=by
 obtain⟨G,run,F,hc,t⟩:=j.cm;have u:=(ks j.val).2.1
 have B:m.ts.length<=16/\∀b∈m.ts,FL b.p.nw/\b.p.sm 500000:=by
  rcases t with⟨_,e,_⟩|⟨_,_,n,_,k⟩
  .rw[e];exact⟨N_ _,λb i=>by cases i⟩
  .refine⟨by have:=k.len;rwa [Ge]at this,λb i=>?_⟩;have p:=HR (f:=Tk.p) i;exact⟨k.fl j.val _ p,(k.tf j.val u _ p).1.sm⟩
 have v:=y2 (ts:=m.ts.map Tk.p) (n:=38500000) λb i=>by
  obtain⟨s,r,rfl⟩:=FQ.1 i;exact xa (B.2 s r).1 (B.2 s r).2
 rw[Ge]at v;refine⟨⟨_,o.ts.row⟩,λb i=>(o.ts.yO b i).e,ov B.1,by have:=B.1;omega,λb i=>?_⟩;have h:=(B.2 b i).2;have e:b.p.nw.length=b.nw.l.length:=h7 _;have z:b.gs.l.length<=500000:=h.gs;have y:b.rs.l.length<=500000:=h.rs;have C:b.ws.l.length<=500000:=h.ws;have D:b.ds.l.length<=500000:=h.ds;have E:=h.nw;omega
def oi(h:List Ob):Prop:=(iF h).Pairwise (· < ·)
def vY:∀(h:List Ob) (n:Int),∀x∈iF (h.take (m_ h n)),x<n
 |[],_,x,b=>by simp[iF]at b
 |o::h,n,x,b=>by
  unfold m_ at b;split at b
  .rw[HP]at b
   rcases M_.1 b with rfl|b
   .assumption
   .exact vY h n x b
  .simp[iF]at b
def vZ:∀{h:List Ob} {n:Int},oi h->n∉iF h->∀x∈iF (h.drop (m_ h n)),n<x
 |[],_,_,_,x,e=>by simp[iF]at e
 |o::h,n,k,i,x,e=>by
  have b:=Ij.1 (show(o.id::iF h).Pairwise (· < ·) from k)
  have p:n≠o.id:=λf=>i (by rw[f];exact Gi)
  have j:n∉iF h:=λf=>i (FX _ f)
  unfold m_ at e;split at e
  .rw[List.drop_succ_cons]at e;exact vZ (h:=h) b.2 j x e
  .rw[List.drop_zero]at e
   rcases M_.1 e with rfl|e
   .show n<o.id
    omega
   .have:=b.1 x e
    omega
def Bh{h:List Ob}{n:Int}(j:jr h n<0):n∉iF h:=λf=>by
 obtain⟨o,e⟩:=nt.1 f
 rcases mr h n with⟨_,b⟩|⟨k,_,i,_⟩
 .rw[e]at b
  cases b
 .omega
def oi.put{h:List Ob}(e:oi h)(o:Ob):oi (lv h o):=by
 unfold lv;split
 .rename_i f;have p:=vY h o.id;have i:=vZ e (Bh f)
  have n:(iF (h.take (m_ h o.id))).Pairwise (· < ·):=by unfold iF;rw[List.map_take];exact List.Pairwise.sublist (List.take_sublist _ _) e
  have k:(iF (h.drop (m_ h o.id))).Pairwise (· < ·):=by unfold iF;rw[List.map_drop];exact List.Pairwise.sublist (List.drop_sublist _ _) e
  unfold oi iF at*;rw[FV,FV,Gc,HO];refine⟨n,Ij.2 ⟨i,k⟩,λa q j b=>?_⟩
  have:=p a q
  rcases M_.1 b with rfl|b
  .exact this
  .exact Int.lt_trans this (i j b)
 .rename_i f;obtain⟨n,k⟩:=yh f;generalize (jr h o.id).toNat=b at*
  have j:iF (h.take b++[o]++h.drop (b+1))=iF h:=by
   unfold iF
   have p:h=h.take b++h[b]::h.drop (b+1):=by rw[<-Q_ n,Hu]
   have i:=Z_ (List.map (·.id)) p;rw[FV,Gm,k]at i;rw[i];simp
  unfold oi;rw[j];exact e
def oi.puts:∀(l:List Ob) {h:List Ob},oi h->oi (l.foldl lv h)
 |[],_,b=>b
 |o::l,_,b=>oi.puts l (b.put o)
def oi.lL{h:List Ob}(b:oi h)(t:i3):oi (lL h t):=by
 unfold oi Go.Proofs.YtenbhdilndfaeaaGreat.lL;rw[pr,mP];exact b.puts _
def uO.Fu{l:List In}{hH hC:Int}{f:List Int}{k:Nat}{run:Int}{s:p9}(h:uO l hH hC d f k run s):oi s.h:=by
 have a:oi []:=List.Pairwise.nil
 induction h with
 |hQ=>show oi (startHeap hH);unfold oi startHeap iF;simp
 |ask h j i b=>
  rename_i k run s
  rcases wA l hH hC f s with e|e
  .rw[e];exact a
  .unfold oi;rw[e];exact b
 |commit h j i b=>
  rename_i k run s;unfold kK;rw[R_ O];split
  .exact a
  split
  .exact a
  show oi (lW s _).h
  unfold lW;split<;>exact b.lL _
def oi.get{h:List Ob}(j:oi h):∀{o:Ob},o∈h->jl h o.id=some o:=by
 induction h with
 |nil=>intro o b;cases b
 |cons a h f=>
  intro o b;have e:=Ij.1 (show(a.id::iF h).Pairwise (· < ·) from j);unfold jl;rw[List.find?_cons]
  rcases M_.1 b with rfl|b
  .simp
  .have:=e.1 o.id (FQ.2 ⟨o,b,rfl⟩)
   have i:(a.id==o.id)=false:=p_;rw[i];exact f e.2 b
def mq{h:List Ob}{ts:List i3}:x∈jx h ts↔uc h (· ∈k1 ts) x:=by
 unfold jx;rw[(kn _ _).mem];exact⟨λe=>e.mono λf b=>((ll _).mem f).1 b,λe=>e.mono λf b=>((ll _).mem f).2 b⟩
def mV{h:List Ob}{ts:List i3}{o:Ob}:o∈jI h ts↔o∈h/\o.id∈jx h ts:=by
 unfold jI;rw[GY,GE]
def qU{h:List Ob}(i:oi h)(ts:List i3):iF (jI h ts)=jx h ts:=by
 refine Asc.eq (P:=λx=>x∈jx h ts) ⟨?_,λx=>?_⟩ ⟨(kn _ _).lt,λx=>Iff.rfl⟩
 .unfold jI iF;exact List.Pairwise.sublist (List.Sublist.map _ List.filter_sublist) i
 .constructor
  .intro b;obtain⟨f,e,rfl⟩:=FQ.1 b;exact(mV.1 e).2
  .intro b;obtain⟨f,e,rfl⟩:=FQ.1 ((mq).1 b).ids;exact FQ.2 ⟨f,mV.2 ⟨e,b⟩,rfl⟩
def pI{h:List Ob}{ts:List i3}(n:oi h)(hc:HG (BY h) h){o:Ob}(k:o∈jI h ts){v:Vl}(f:v∈o.fs)(b:isRef v=true):v.n∈jx h ts:=by
 obtain⟨e,j⟩:=mV.1 k
 have i:v.r=true/\v.n≠0:=by unfold isRef at b;simpa using b
 exact(mq).2 (.step ((mq).1 j) (n.get e) f b (((hc o e).2 v f i.1).resolve_left i.2))
def wd{b:Type}(p:b->Bool):∀l:List b,(l.filter p).length+(l.filter λo=> !p o).length=l.length
 |[]=>rfl
 |a::l=>by
  have f:=wd p l
  cases e:p a<;>simp[Ho,e]<;>omega
def BA{h:List Ob}(b:oi h)(ts:List i3):oi (jI h ts):=by
 unfold oi;rw[qU b];exact(kn _ _).lt
def tD{h:List Ob}(j:oi h){ts:List i3}{n:Int}(o:n∈jx h ts∨n∉iF h):jl (jI h ts) n=jl h n:=by
 by_cases e:n∈iF h
 .have k:=o.resolve_right (λp=>p e);obtain⟨b,f⟩:=nt.1 e;have i:b∈jI h ts:=mV.2 ⟨nN f,by rw[qP f];exact k⟩
  have:=(BA j ts).get i
  rw[qP f]at this;rw[this,f]
 .have k:jl h n=none:=by
   cases f:jl h n with
   |none=>rfl
   |some b=>exact FU (nt.2 ⟨b,f⟩) e
  have i:jl (jI h ts) n=none:=by
   cases f:jl (jI h ts) n with
   |none=>rfl
   |some b=>
    have:=nt.2 ⟨b,f⟩
    rw[qU j]at this;exact FU ((mq).1 this).ids e
  rw[k,i]
section
variable{h:List Ob}{ts:List i3}
def CN(e:oi h){v:Vl}(f:v.r=true->v.n∈jx h ts∨v.n∉iF h)(out:List Int):oE (jI h ts) out v=oE h out v:=by
 unfold oE
 cases b:v.r with
 |false=>simp
 |true=>rw[tD e (f b)]
def CM(o:oi h){v:Vl}(i:v.r=true->v.n∈jx h ts∨v.n∉iF h)(f:∀x∈out,x∈jx h ts):∀x∈oE h out v,x∈jx h ts:=by
 unfold oE;split
 .rename_i e;simp only[F0]at e;obtain⟨k,j⟩:=Option.isSome_iff_exists.1 e.2.1;intro x b
  rcases X_.1 b with b|b
  .exact f x b
  .rw[I_]at b;subst b
   exact(i e.1).resolve_right λn=>n (nt.2 ⟨k,j⟩)
 .exact f
def xC(f:oi h):∀(l:List Vl) (out:List Int),(∀v∈l,v.r=true->v.n∈jx h ts∨v.n∉iF h)->(∀x∈out,x∈jx h ts)->rp (jI h ts) out l=rp h out l/\∀x∈rp h out l,x∈jx h ts
 |[],out,_,e=>⟨rfl,e⟩
 |v::r,out,b,e=>by
  have j:=CN f (b v J) out;have i:=xC f r (oE h out v) (λn k=>b n (FX _ k)) (CM f (b v J) e);refine⟨?_,i.2⟩
  show rp (jI h ts) (oE (jI h ts) out v) r=_
  rw[j];exact i.1
def Bo(k:oi h)(hc:HG (BY h) h)(h0:(0:Int)∉iF h){n:Int}(i:n∈jx h ts):∀v∈rX h n,v.r=true->v.n∈jx h ts∨v.n∉iF h:=by
 intro v b j;unfold rX at b
 cases e:jl h n with
 |none=>rw[e]at b;cases b
 |some o=>
  rw[e]at b
  by_cases f:v.n=0
  .exact .inr (by rw[f];exact h0)
  .refine .inl (pI k hc (o:=o) (mV.2 ⟨nN e,by rw[qP e];exact i⟩) b ?_);unfold isRef;rw[j];simp[f]
def Bp(e:oi h){n:Int}(b:n∈jx h ts):rX (jI h ts) n=rX h n:=by
 unfold rX;rw[tD e (.inl b)]
def AQ(j:oi h)(hc:HG (BY h) h)(h0:(0:Int)∉iF h):∀(f i:Nat) (out:List Int),(∀x∈out,x∈jx h ts)->vN (jI h ts) f i out=vN h f i out/\∀x∈vN h f i out,x∈jx h ts
 |0,_,_,b=>⟨rfl,b⟩
 |f+1,i,out,b=>by
  unfold vN
  cases e:out[i]? with
  |none=>exact⟨rfl,b⟩
  |some n=>
   have o:n∈jx h ts:=b n (List.mem_of_getElem? e);obtain⟨p,q⟩:=xC j (rX h n) out (Bo j hc h0 o) b;have k:=AQ j hc h0 f (i+1) (rp h out (rX h n)) q;refine⟨?_,k.2⟩
   show vN (jI h ts) f (i+1) (rp (jI h ts) out (rX (jI h ts) n))=_
   rw[Bp j o,p];exact k.1
def A2:(1:Int)∈jx h ts∨(1:Int)∉iF h:=by
 by_cases b:(1:Int)∈iF h
 .exact .inl ((mq).2 (.root (Gi ..) b))
 .exact .inr b
def Cq(f:oi h)(hc:HG (BY h) h)(h0:(0:Int)∉iF h)(b:Nat):qk (jI h ts) b [⟨true,1⟩]=qk h b [⟨true,1⟩]/\∀x∈qk h b [⟨true,1⟩],x∈jx h ts:=by
 obtain⟨j,k⟩:=xC (ts:=ts) f [⟨true,1⟩] [] (λo i _=>by rw[I_]at i;subst i;exact A2) (λx n=>by cases n);have e:=AQ (ts:=ts) f hc h0 b 0 _ k;refine⟨?_,e.2⟩;unfold qk;rw[j];exact e.1
def BE(e:oi h)(L:List Int):∀(l:List Int) (k:Nat),(∀x∈l,x∈jx h ts)->zS (jI h ts) L k l=zS h L k l
 |[],_,_=>rfl
 |n::r,k,b=>by
  unfold zS;rw[Bp e (b n J),BE e L r (k+1) λx f=>b x (FX _ f)]
def BB(j:oi h)(r:uc h (· ∈k1 ts) x):uc (jI h ts) (· ∈k1 ts) x:=by
 have e:∀{n:Int},uc h (· ∈k1 ts) n->n∈iF (jI h ts):=λb=>by rw[qU j];exact(mq).2 b
 induction r with
 |root a f=>exact .root a (e (.root a f))
 |step b f k i p o=>exact .step o ((tD j (.inl ((mq).2 b))).trans f) k i (e (.step b f k i p))
def uG(e:oi h){o:Ob}(b:o∈jI h ts):o.id∈jx (jI h ts) ts:=
 (mq).2 (BB e ((mq).1 (mV.1 b).2))
def zA(e:oi h):jI (jI h ts) ts=jI h ts:=by
 conv=>lhs;unfold jI
 exact List.filter_eq_self.2 λf b=>Gd (uG e b)
def Bn(e:oi h):oD (jI h ts) ts=[]:=by
 unfold oD;rw[List.filter_eq_nil_iff.2 λf b=>by rw[Gd (uG e b)];simp]
 rfl
def zB:(jI h ts).length+(oD h ts).length=h.length:=by
 unfold jI oD;rw[Ge];exact wd _ h
def zC(i:oi h)(hc:HG (BY h) h):yo (jI h ts)=[]:=by
 unfold yo;rw[List.filter_eq_nil_iff];intro x q;have b:=((ll _).mem x).1 q;unfold kd at b;obtain⟨r,k,e⟩:=G3.1 b;unfold lZ at e;obtain⟨t,o,rfl⟩:=FQ.1 e;obtain⟨p,j⟩:=GY.1 o;have f:=pI i hc k p j;rw[<-qU i]at f;obtain⟨s,n⟩:=nt.1 f;rw[n];simp
end
def BU(h:List Ob)(n:Nat)(w:World)(e:Ending)(w':World):Prop:=∃(A':OA) (c':Nat) (l':List Rw),e=.returned (.agg #[.slice A' l'.length c'])/\hX l'=h/\Os w' A' l'/\l5 w' l'/\l'.length<=n/\I [] w w'
section
variable{hA TA:OA}{hc tc:Nat}{l:List Rw}{ts:List Tk}{w:World}
def rr(M:HM w hA l)(u:TM w TA ts):
 Calls prog 31 #[.agg #[.slice hA l.length hc],.slice TA ts.length tc] w (BU (jI (hX l) (ts.map Tk.p)) l.length w):=by
 refine h5 λQ C=>?_
 obtain⟨R,g,f,S,X,N,k,F,E⟩:=tJ w 35 #[.slice hA l.length hc] 35 #[n_];have P:=F.f_ 0;have v:=U (vP (hc:=hc) (tc:=tc) (rb:=true) (M.hF k) (u.hF k))
 go_enter func31,ntmps31
 go_wp2_with fail
 go_at_call 73
 refine v.out.mono ?_;rintro W o⟨e,i,j,rfl,G,z,q,y,r⟩;have b:=E.hF r;have V:=b.f_ 0;have T:=b.hG 0;go_wp2;have D:=b.hV 0 (.slice e j.length i);have n:I [f] o (o.setCell (Z f 0) (.slice e j.length i)):=(H [f] o).setCell (p:=Z f 0) (.inl J) _;refine rr_ #[.slice e j.length i] D underlying35 ?_;rw[C.out];refine⟨e,i,j,rfl,?_,Sl.it z b O n,λt s=>⟨Sl.it (q t s).1 b O n,(q t s).2⟩,y,(k.trans r).hJ n (λY K=>.inr (by rw[I_]at K;omega))⟩;rw[G];unfold jI
 refine List.filter_congr λL _=>?_
 unfold s6
 cases decide (L.id∈jx (hX l) (ts.map Tk.p))<;>rfl
def rn(L:HM w hA l)(N:TM w TA ts):
 Calls prog 33 #[.agg #[.slice hA l.length hc],.slice TA ts.length tc] w (lz (oD (hX l) (ts.map Tk.p)) w):=by
 refine h5 λQ V=>?_
 obtain⟨ad,g,aW,hg,s,hB⟩:=box1 w 35 #[.slice hA l.length hc];have MV:=hB.f_ 0;have d:=L.len;have y:=U (vP (hc:=hc) (tc:=tc) (rb:=false) (L.hF s) (N.hF s))
 have m:=U (show ∀b:List Rw,hX b=(hX l).filter (s6 (hX l) (ts.map Tk.p) false)->(hX b).map (·.id)=oD (hX l) (ts.map Tk.p) from λb h=>by
  rw[h];unfold oD;congr 1
  refine List.filter_congr λo _=>?_
  unfold s6
  cases decide (o.id∈jx (hX l) (ts.map Tk.p))<;>rfl)
 go_enter func33,ntmps33
 go_wp2_with fail
 go_at_call 73
 refine y.out.mono ?_;rintro u j⟨A1,c1,b,rfl,G,S,ag,aJ,hg1⟩;have Z:=U (m.out b G);have ak:=s.trans hg1;have D:Zr j.heap.size j none 0 []:=Zr.nil;clear G ag m y;generalize oD (hX l) (ts.map Tk.p)=gs at*
 go_wp2_with fail
 go_loopw [5,12] (λov t wr=>∃(e:Nat) (i:List Int) (n:OA) (p:Nat),e<=b.length/\t=Y e/\ov=.slice n i.length p/\Hid (i=((hX b).take e).map (·.id))/\i.length<=e/\Zr j.heap.size wr n p i/\I [] j wr) (λ_ t _=>b.length-(intOf t).toNat)
 case atStart=>exact⟨0,[],none,0,N_ _,gn,rfl,U rfl,H_ _,D,H _ _⟩
 case round=>
  clear D;obtain⟨e,i,n,p,hi,rfl,rfl,K,q,r,k⟩:=hrel
  by_cases C:e<b.length
  .obtain⟨al,off,P,bj,bz⟩:=(S.hF k).at_ C;subst P
   have c:=U (show i++[b[e].o.id]=((hX b).take (e+1)).map (·.id) by
    rw[T_ (by rw[h7];exact C),FV,K.out]
    simp[hX])
   generalize b[e]=f at*;obtain⟨z,gb,bE,aM,a,E⟩:=box1 wr 56 #[Y f.o.id,.slice f.A f.o.fs.length f.c];have z0:=E.f_ 0;have v:=(H [] z).alloc (.cells #[Y f.o.id] 2);have dg:=(r.hF a).hF v;have F:=(k.trans a).trans v;have cn:=F.size;clear E r k a
   go_wp2_with (at_builtin;refine BO dg (Ls.one z f.o.id) cn p_ ?_;intro T R MT W M)
   have O:=M.gr [] j (H_ _) F;go_roundw
   case rel=>exact⟨e+1,i++[f.o.id],T,R,X,gn,J,c,p_,W,O⟩
   case measure=>exact mz
  .go_wp2;rw[V.out];have u:=K.out;rw[FP (by rw[h7];omega),Z.out]at u;subst u;exact⟨n,p,rfl,r.ls,iY r,ak.trans k⟩
end
def qp(g:Nat):List Rw:=[⟨⟨1,[⟨false,0⟩]⟩,j_ g,1⟩,⟨⟨2,[]⟩,none,0⟩,⟨⟨3,[]⟩,none,0⟩]
def t26(g:Nat):Tk:={Tk.zero with rs:=⟨j_ g,1,[⟨1,0,⟨true,3⟩⟩]⟩}
def D7{P:Int->Prop}(r:uc (hX (qp g)) P x):P x:=by
 induction r with
 |root a _=>exact a
 |step _ f e i _ _=>
  exfalso
  have b:=nN f;simp[hX,qp]at b
  rcases b with rfl|rfl|rfl<;>simp at e
  subst e;simp[isRef]at i
def rm{ts:List i3}(b:x∈iF (hX (qp g))):x∈jx (hX (qp g)) ts↔x∈mR (k1 ts):=by
 unfold jx;rw[(kn _ _).mem];exact⟨D7,λh=>.root h b⟩
def DE(g:Nat):(oD (hX (qp g)) []).length=2:=by
 have e:(1:Int)∈jx (hX (qp g)) []:=(rm (by simp[iF,hX,qp])).2 O
 have f:(2:Int)∉jx (hX (qp g)) []:=λb=>FU ((rm (by simp[iF,hX,qp])).1 b) O
 have i:(3:Int)∉jx (hX (qp g)) []:=λb=>FU ((rm (by simp[iF,hX,qp])).1 b) O
 unfold oD;generalize jx (hX (qp g)) []=j at*;simp[hX,qp,e,f,i]
def DK(g b:Nat):(jI (hX (qp g)) [(t26 b).p]).length=2:=by
 have e:mR (k1 [(t26 b).p])=[1,3]:=by show mR [1,1,3]=[1,3];decide
 have f:(1:Int)∈jx (hX (qp g)) [(t26 b).p]:=(rm (by simp[iF,hX,qp])).2 (by rw[e];decide)
 have i:(2:Int)∉jx (hX (qp g)) [(t26 b).p]:=λk=>FU ((rm (by simp[iF,hX,qp])).1 k) (by rw[e];decide)
 have j:(3:Int)∈jx (hX (qp g)) [(t26 b).p]:=(rm (by simp[iF,hX,qp])).2 (by rw[e];decide);unfold jI;generalize jx (hX (qp g)) [(t26 b).p]=n at*;simp[hX,qp,f,i,j]
def TM.nil(w:World)(A:OA):TM w A []:=⟨⟨0,rfl,λh=>FU h (Nat.lt_irrefl 0)⟩,λe b=>(by cases b),by decide,by decide,λe b=>(by cases b)⟩
def w9{w:World}:Calls prog 27 #[] w λe w'=>e=.returned (.bool true)/\I [] w w':=by
 refine h5 λQ X=>?_
 obtain⟨bw,g,z,Z,K,hg1,bC,s,i⟩:=tJ w 38 #[.bool false,Y 0] 56 #[Y 1,.slice (j_ w.heap.size) 1 1,Y 2,n_,Y 3,n_];obtain⟨f,aF,V,M0,u,r⟩:=box1 bw 35 #[.slice (j_ (w.heap.size+1)) 3 3];have S:=bC.trans u;replace s:=s.hF u;replace i:=i.hF u;obtain⟨b,H⟩:=mn_ f.heap.size;obtain⟨C,D,a⟩:=pZ f 116 #[Y 1,Y 0,.bool true,Y 3] 53 (t26 b).g_;obtain⟨G,R⟩:=mn_ (b+1);rw[H]at C;rw[H,R]at D;rw[K,hg1]at r V;rw[K]at i Z;have ae:=S.trans a
 have F:HM ((f.alloc (.cells #[Y 1,Y 0,.bool true,Y 3] 116)).alloc (.cells (t26 b).g_ 53)) (j_ z) (qp g):=by
  refine⟨⟨56,Sl.hF (⟨rfl,λ_=>⟨z,0,_,(0,0),rfl,i,λM N n=>by simpa[iV,Rw.E,qp]using n⟩⟩:Sl f 56 2 (j_ z) (qp g).length (iV (qp g))) a⟩,⟨λ_=>38,λaf t=>?_⟩,(by show 3<=50000000;decide),by simp[iF,hX,qp],λx L=>?_⟩
  .simp[qp]at t
   rcases t with rfl|rfl|rfl
   .exact⟨(Eo (v:=⟨false,0⟩) s).hF a,by show 1<=1000000000;decide⟩
   .exact⟨Gw _ _ _ _,O⟩
   .exact⟨Gw _ _ _ _,O⟩
  .simp[iF,hX,qp]at L
   rcases L with rfl|rfl|rfl<;>rfl
 have y:TM ((f.alloc (.cells #[Y 1,Y 0,.bool true,Y 3] 116)).alloc (.cells (t26 b).g_ 53)) (j_ G) [t26 b]:=by
  refine⟨⟨53,⟨rfl,λ_=>⟨G,0,_,(0,0),rfl,D,λM N n=>by simpa using n⟩⟩⟩,λah E=>?_,(by show([1,1,3]:List Int).length<=1000000000;decide),(by show 1<=1000000000;decide),λah E=>?_⟩
  .rw[I_.1 E];refine⟨⟨0,Gw _ _ _ _⟩,⟨116,⟨rfl,λ_=>⟨b,0,_,(0,0),rfl,C,λM N n=>by simpa[t26,Cl.E]using n⟩⟩⟩,⟨0,Gw _ _ _ _⟩,⟨0,Gw _ _ _ _⟩,⟨0,Gw _ _ _ _⟩,⟨λ_=>0,λaf t=>by cases t⟩⟩
  .rw[I_.1 E];exact(by decide:0<=1000000000/\1<=1000000000/\0<=1000000000/\0<=1000000000/\0<=1000000000)
 have P:=U ((rn (hc:=3) (tc:=0) F (TM.nil ((f.alloc (.cells #[Y 1,Y 0,.bool true,Y 3] 116)).alloc (.cells (t26 b).g_ 53)) none)).mono (R':=λe w'=>∃A c,e=.returned (.slice A 2 c)/\I [] ((f.alloc (.cells #[Y 1,Y 0,.bool true,Y 3] 116)).alloc (.cells (t26 b).g_ 53)) w') λe w'⟨A,c,j,_,_,k⟩=>⟨A,c,by rw[j];show Ending.returned (.slice A (oD (hX (qp g)) []).length c)=_;rw[DE],k⟩)
 have T:=U (λ(w':World)(h:I [] ((f.alloc (.cells #[Y 1,Y 0,.bool true,Y 3] 116)).alloc (.cells (t26 b).g_ 53)) w')=>(rr (hc:=3) (tc:=1) (F.hF h) (y.hF h)).mono (R':=λe o=>∃A c,e=.returned (.agg #[.slice A 2 c])/\I [] w' o) λe o⟨A,c,l',j,h3,_,_,_,k⟩=>⟨A,c,by
  have J:=Z_ List.length h3;rw[h7]at J;rw[j,J]
  show Ending.returned (.agg #[.slice A (jI (hX (qp g)) [(t26 b).p]).length c])=_
  rw[DK],k⟩)
 have dB:=U (λ(w':World)(h:I [] ((f.alloc (.cells #[Y 1,Y 0,.bool true,Y 3] 116)).alloc (.cells (t26 b).g_ 53)) w')=>((y.hF h).roots 1).mono (R':=λe o=>∃A c,e=.returned (.slice A 2 c)/\I [] w' o) λe o⟨A,c,j,_,_,k⟩=>⟨A,c,j,k⟩);have MV:=(r.hF a).f_ 0;have bT:=r.hF a;clear y F s i r C D
 go_enter func27,ntmps27
 go_upto_region 3 with fail
 have ai:=DH
 conv=>arg 5;change((f.alloc (.cells #[Y 1,Y 0,.bool true,Y 3] 116)).alloc (.cells (t26 b).g_ 53))
 generalize ((f.alloc (.cells #[Y 1,Y 0,.bool true,Y 3] 116)).alloc (.cells (t26 b).g_ 53))=aX at*
 go_wp2_with (first
  |(go_at_call 33;refine P.out.mono ?_;rintro e ag⟨bg,aO,rfl,q⟩;have aP:=(bT.hF q).f_ 0)
  |(go_at_call 31;refine(T.out _ q).mono ?_;rintro e ad⟨aM,c4,rfl,d⟩)
  |(go_at_call 28;refine(dB.out _ (q.trans d)).mono ?_;rintro e MT⟨a8,c5,rfl,W⟩))
 rw[X.out];exact⟨rfl,ae.trans ((q.trans d).trans W)⟩
def CR{hA:OA}{j l:List Rw}{w w':World}{A:OA}{ts:List i3}(b:HM w hA j)(n:hX l=jI (hX j) ts)(o:Os w' A l)(f:l5 w' l)(p:l.length<=j.length):HM w' A l:=
 ⟨⟨_,o.e⟩,⟨_,f.e⟩,ov b.len,λq=>b.zero (by
   rw[n]at q;obtain⟨k,e,i⟩:=FQ.1 q
   exact FQ.2 ⟨k,(mV.1 e).1,i⟩),λx q=>b.wf x (by
   rw[n]at q;obtain⟨k,e,i⟩:=FQ.1 q
   exact FQ.2 ⟨k,(mV.1 e).1,i⟩)⟩
def BC{h:List Ob}{ts:List i3}(k:oi h)(hc:HG (BY h) h)(r:h.length<=50000000):ES (kd (jI h ts)):=λp e f=>by
 have q:=oz p (l:=jx h ts) e λx e=>by
  have b:=f x e;unfold kd at b;obtain⟨s,j,b⟩:=G3.1 b;unfold lZ at b;obtain⟨t,n,rfl⟩:=FQ.1 b;obtain⟨o,i⟩:=GY.1 n;exact pI k hc j o i
 have b:=yd h ts;omega
def p6(bT:∀(B g:Nat) (w:World),iQ w B g->B<=w.heap.size->Calls prog 11 #[q_ g] w (BT B g w))(a0:OA)(r u:Nat)(z0:List Int)(bW:TypeId)(w:World)(hs:Sl w bW 1 a0 r (z0.map (.int .u8)))(hz:∀al,0<=z0.getD al 0/\z0.getD al 0<256)(cG:r<=u)(hl0:r<=9223372036854775807):
 Calls prog 7 #[.slice a0 r u] w λe w'=>e=.returned (.bool true)/\I [] w w':=by
 refine h5 λQ aq=>?_
 go_enter func7,ntmps7
 go_upto_region 3 with(go_at_call 27;refine(w9).mono ?_;rintro e w1⟨rfl,hg1⟩)
 go_upto_region 4 with(first
  |(go_at_call 12;refine(vW a0 r u z0 bW (Sl.hF hs hg1) hz cG hl0).mono ?_;rintro e ag⟨d,rfl,ai,hd,an⟩)
  |(go_at_call 11;refine(bT ag.heap.size d ag hd (H_ _)).mono ?_;unfold BT;rintro e v⟨m,rfl,E,K,cF,MS⟩)
  |(refine kS (m.g_) (P_ v 43 Fg) (Md.one _) ?_;intro L b5 aj))
 have co:I [] v L:=((H [] v).alloc _).hJ aj J;have aZ:w.heap.size<=d:=G_ hg1.size ai;have eK:I [] w v:=(hg1.trans an).hJ MS (zu aZ);have MZ:=eK.trans co;replace E:=E.hF co;have p:=Md.hm E K;have S:=Md.tm E K;have aJ:=E.s.h.os;have MU:=E.s.h.k5
 have s:=U (show oi (hX m.s.h.l)/\HG (BY (hX m.s.h.l)) (hX m.s.h.l) by
  obtain⟨i,run,hk,hc,_⟩:=K.cm
  exact⟨hc.Fu,(hc.ci K.val (ks K.val).2.1).2.cl⟩)
 have aA:Bk L v.heap.size 43 m.g_:=b5;have az:m.g_[5]?=some (.slice m.s.h.A m.s.h.l.length m.s.h.c):=rfl;have ap:m.g_[15]?=some (.slice m.tA m.ts.length m.tc):=rfl;have bz:L.cell? (Z v.heap.size 5)=some (.slice m.s.h.A m.s.h.l.length m.s.h.c):=(b5.f_ 5).trans rfl;have bD:L.cell? (Z v.heap.size 15)=some (.slice m.tA m.ts.length m.tc):=(b5.f_ 15).trans rfl;have aL:w.heap.size<=v.heap.size:=eK.size;clear E K b5 cF MS aj hd an ai hs hz cG hl0 eK co aZ;generalize m.g_=mc at*;generalize m.s.h.A=hA at*;generalize m.s.h.c=hc at*;generalize m.s.h.l=k at*;generalize m.tA=tA at*;generalize m.tc=tc at*;generalize m.ts=ts at*;generalize v.heap.size=gx at*;clear hg1;obtain⟨bd,aW⟩:=nm_ L;rw[<-aW]at MZ S p aJ MU bz bD aA |-;clear aW;have bf:=U (rr (hc:=hc) (tc:=tc) p S)
 go_upto_region 5 with(go_at_call 31;refine bf.out.mono ?_;unfold BU;rintro e ax⟨C,D,o,rfl,y,a6,ak,bS,ay⟩)
 obtain⟨af,ao,bh,av,aR,bQ⟩:=box1 ax 35 #[.slice C o.length D];rw[bh,av];have a2:=ay.trans aR;have au:Os af C o:=Sl.hF a6 aR;have aw:=ak.hF aR;clear bf a6 ak bh av aR;have ar:=bQ.f_ 0;obtain⟨bC,xr,dX,cy,z,bk⟩:=box1 af 38 #[.bool true,Y 1];have W:=Dm af ⟨true,1⟩;simp only at W;rw[dX,cy]at W;have aC:Vs bC (j_ xr) [⟨true,1⟩]:=W;have O:=a2.trans z;have z5:=O.f_ bz J;have z4:=z.f_ ar J;have HA:=U (λ(w':World)(i:I [] bC w')=>tH hA (j_ xr) hc 1 (k.length+1) k [⟨true,1⟩] w' (Sl.hF aJ (O.trans i)) (MU.hF (O.trans i)) p.len (Sl.hF aC i) J X);have bi:=U (λ(w':World)(i:I [] bC w')=>tH C (j_ xr) D 1 (k.length+1) o [⟨true,1⟩] w' (Sl.hF au (z.trans i)) (aw.hF (z.trans i)) (ov p.len) (Sl.hF aC i) J X);have h0:=p.zero;have hR:=Cq (ts:=ts.map Tk.p) s.out.1 s.out.2 h0 (k.length+1);rw[y,hR.1,BE s.out.1 _ _ 0 hR.2]at bi;clear hR W aC;generalize qk (hX k) (k.length+1) [⟨true,1⟩]=bm at*;generalize zS (hX k) bm 0 bm=bv at*;generalize hP:tQ bm [⟨true,1⟩]=V at*
 have bL:V.length=1:=by rw[<-hP];rfl
 clear hP
 go_upto_region 7 with(go_at_call 37;refine(HA.out bC (H _ _)).mono ?_;rintro e ae⟨aH,bx,aE,ce,bB,rfl,bU,a7,bj,MV,b6,ca⟩)
 obtain⟨bJ,bp,bO,aQ,x,aX⟩:=box1 ae 35 #[.slice aH bB.length aE];rw[bO,aQ];have G:=ca.trans x;have bE:=G.f_ z4 J
 go_upto_region 8 with(go_at_call 37;refine(bi.out bJ G).mono ?_;rintro e cQ⟨bZ,aI,cg,aY,ah,rfl,bV,be,bn,br,b7,am⟩)
 obtain⟨l,bN,bP,e0,N,bM⟩:=box1 cQ 35 #[.slice bZ ah.length cg];rw[bP,e0];have t:=am.trans N;have F:=O.trans (G.trans t);have aU:=p.hF F;have P:=S.hF F;have R:Os l C o:=Sl.hF au (z.trans (G.trans t));have T:=aw.hF (z.trans (G.trans t));have A:=CR p y R T bS;have a8:Os l aH bB:=Sl.hF a7 (x.trans t);have bl:=bj.hF (x.trans t);have bq:Vs l bx V:=Sl.hF MV (x.trans t);have bg:Os l bZ ah:=Sl.hF be N;have bo:=bn.hF N;have bt:Vs l aI V:=Sl.hF br N;have e2:=t.f_ bE J;have e3:=(aX.hF t).f_ 0;have u8:=bM.f_ 0;have bA:=((aA.hF F).f_ 5).trans az;have bw:=((aA.hF F).f_ 15).trans ap;have bF:=U (λ(w':World)(i:I [] l w')=>ur aH bZ aE cg bB ah w' (Sl.hF a8 i) (bl.hF i) (Sl.hF bg i) (bo.hF i) (bU.trans bV.symm) X);have aT:=U (λ(w':World)(i:I [] l w')=>yZ bx aI ce aY V w' (Sl.hF bq i) (Sl.hF bt i) X);rw[bL]at aT;have b4:o.length<=50000000:=A.len;have aK:=U (λ(w':World)(i:I [] l w')=>xK C D o w' (Os.e (Sl.hF R i)) (l5.e (T.hF i)) X (by rw[y];exact BC s.out.1 s.out.2 (by rw[h7];exact p.len)));rw[y,zC s.out.1 s.out.2]at aK;have aN:=U (λ(w':World)(i:I [] l w')=>rr (hc:=D) (tc:=tc) (A.hF i) (P.hF i));rw[y,zA s.out.1]at aN;have bG:=U (λ(w':World)(i:I [] l w')(ct:OA)(cv:Nat)(M:List Rw)(a:Os w' ct M)(cb:l5 w' M)(e:hX M=jI (hX k) (ts.map Tk.p))(cc:M.length<=o.length)=>ur ct C cv D M o w' a cb (Sl.hF R i) (T.hF i) (e.trans y.symm) X);have aS:=U (λ(w':World)(i:I [] l w')=>rn (hc:=D) (tc:=tc) (A.hF i) (P.hF i));rw[y,Bn s.out.1]at aS;have bI:=U (λ(w':World)(i:I [] l w')=>rn (hc:=hc) (tc:=tc) (aU.hF i) (P.hF i))
 have cA:o.length+(oD (hX k) (ts.map Tk.p)).length=k.length:=by
  have e:=zB (h:=hX k) (ts:=ts.map Tk.p);rw[<-y,h7,h7]at e;exact e
 have d1:=p.len;generalize oD (hX k) (ts.map Tk.p)=gs at*
 have p7:IntKind.i64.wrap ((o.length:Int)+(gs.length:Int))=(k.length:Int):=by
  rw[show(o.length:Int)+(gs.length:Int)=(k.length:Int) by omega];exact F5 _ X
 have cf:I [] w l:=MZ.trans F;clear HA bi A aU P R T a8 bl bq bg bo bt a7 bj MV be bn br au aw z4 bE z5 ar bz bD MZ p S aJ MU ca x G am N t F z a2 O bQ aX bM bk;refine hN (λw'=>w'.cell? (Z ao 0)=some (.slice C o.length D)/\w'.cell? (Z bp 0)=some (.slice aH bB.length aE)/\w'.cell? (Z bN 0)=some (.slice bZ ah.length cg)/\w'.cell? (Z gx 5)=some (.slice hA k.length hc)/\w'.cell? (Z gx 15)=some (.slice tA ts.length tc)) 50 k_ ?_;obtain⟨bu,ch⟩:=nm_ l.drew
 have c:I [] l bu:=by rw[ch];exact(H [] l).drew
 rw[<-ch];clear ch
 refine m5 ⟨c.f_ e2 J,c.f_ e3 J,c.f_ u8 J,c.f_ bA J,c.f_ bw J⟩ λb=>?_
 clear e2 e3 u8 bA bw;refine iv 0 b ?_;refine iv 1 b ?_
 refine hZ 2 λn j=>?_
 go_simp
 go_at_call 30
 refine(bF.out _ c).mono ?_;rintro e q⟨rfl,f⟩
 refine h4 j ⟨f.f_ b.1 J,f.f_ b.2.1 J,f.f_ b.2.2.1 J,f.f_ b.2.2.2.1 J,f.f_ b.2.2.2.2 J⟩ λb=>?_
 clear j n;replace c:=c.trans f;clear f;refine iv 3 b ?_;refine iv 4 b ?_;refine iv 5 b ?_
 refine hZ 6 λn j=>?_
 rw[U_ k_];go_simp
 go_at_call 38
 refine(aT.out _ c).mono ?_;rintro e q⟨rfl,f⟩
 refine h4 j ⟨f.f_ b.1 J,f.f_ b.2.1 J,f.f_ b.2.2.1 J,f.f_ b.2.2.2.1 J,f.f_ b.2.2.2.2 J⟩ λb=>?_
 clear j n;replace c:=c.trans f;clear f;refine iv 7 b ?_;refine iv 8 b ?_;refine iv 9 b ?_
 refine hZ 10 λn j=>?_
 rw[U_ k_];go_simp
 go_at_call 24
 refine(aK.out _ c).mono ?_;unfold lz;rintro e q⟨ct,cv,rfl, -, -,f⟩
 refine h4 j ⟨f.f_ b.1 J,f.f_ b.2.1 J,f.f_ b.2.2.1 J,f.f_ b.2.2.2.1 J,f.f_ b.2.2.2.2 J⟩ λb=>?_
 clear j n;replace c:=c.trans f;clear f;refine iv 11 b ?_;refine iv 12 b ?_;refine iv 13 b ?_;refine iv 14 b ?_;refine iv 15 b ?_;refine iv 16 b ?_;refine iv 17 b ?_;refine iv 19 b ?_
 refine hZ 18 λn j=>?_
 rw[U_ k_];go_simp
 go_at_call 31
 refine(aN.out _ c).mono ?_;unfold BU;rintro e q⟨cV,aV,b0,rfl,dN,bX,bY,bR,f⟩
 refine h4 j ⟨f.f_ b.1 J,f.f_ b.2.1 J,f.f_ b.2.2.1 J,f.f_ b.2.2.2.1 J,f.f_ b.2.2.2.2 J⟩ λb=>?_
 clear j n;replace c:=c.trans f;clear f
 refine hZ 20 λn j=>?_
 rw[U_ k_];go_simp
 go_at_call 30
 refine(bG.out _ c cV aV b0 bX bY dN bR).mono ?_;rintro e q⟨rfl,f⟩
 refine h4 j ⟨f.f_ b.1 J,f.f_ b.2.1 J,f.f_ b.2.2.1 J,f.f_ b.2.2.2.1 J,f.f_ b.2.2.2.2 J⟩ λb=>?_
 clear j n;replace c:=c.trans f;clear f;refine iv 21 b ?_;refine iv 22 b ?_;refine iv 23 b ?_;refine iv 24 b ?_;refine iv 25 b ?_
 refine hZ 26 λn j=>?_
 rw[U_ k_];go_simp
 go_at_call 33
 refine(aS.out _ c).mono ?_;unfold lz;rintro e q⟨ci,cj,rfl, -, -,f⟩
 refine h4 j ⟨f.f_ b.1 J,f.f_ b.2.1 J,f.f_ b.2.2.1 J,f.f_ b.2.2.2.1 J,f.f_ b.2.2.2.2 J⟩ λb=>?_
 clear j n;replace c:=c.trans f;clear f;refine iv 27 b ?_;refine iv 28 b ?_;refine iv 29 b ?_;refine iv 30 b ?_;refine iv 31 b ?_;refine iv 32 b ?_;refine iv 33 b ?_;refine iv 34 b ?_;refine iv 35 b ?_;refine iv 36 b ?_;refine iv 37 b ?_;refine iv 38 b ?_;refine iv 42 b ?_;refine iv 43 b ?_;refine iv 44 b ?_;refine iv 45 b ?_;refine iv 46 b ?_
 refine hZ 39 λn j=>?_
 rw[U_ k_];go_simp
 go_at_call 33
 refine(bI.out _ c).mono ?_;unfold lz;rintro e q⟨fi,bK,rfl, -, -,f⟩
 refine h4 j ⟨f.f_ b.1 J,f.f_ b.2.1 J,f.f_ b.2.2.1 J,f.f_ b.2.2.2.1 J,f.f_ b.2.2.2.2 J⟩ λb=>?_
 clear j n;replace c:=c.trans f;clear f;refine iv 40 b ?_;refine iv 41 b ?_;refine iv 47 b ?_;refine iv 48 b ?_;refine iv 49 b ?_;refine hM k_ ?_ _;go_wp2;rw[aq.out];exact⟨rfl,cf.trans c⟩
