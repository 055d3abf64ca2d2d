import Derived.Test.YtenbhdilndfaeaaGreatM10
import Derived.Test.YtenbhdilndfaeaaGreatM11
import Derived.Laws.BitsLemmas
import Derived.WalkMore
set_option maxRecDepth 100000
set_option maxHeartbeats 0
set_option linter.all false
namespace Go.Proofs.YtenbhdilndfaeaaGreat
open Go.RowKit Go.Proofs.Tryz
variable{G:Prop}{Q:Exit->Act->World->Prop}{i:Nat}{a:Act}{cp e0 q tb:TypeId}{ops:Array Oper}{E:Rw->TypeId}{h:List Ob}(U:Option Addr)(hc:Nat)
theorem Gp(h:G:=by
 go_upto_region 8 with fail
 have f:=hg.trans (D_ [] wr).drew;have v:=hz.g_ (D_ [] wr).drew;refine hC (λ_=>True) 9 k_ ?_;obtain⟨W,aZ⟩:=nm_ wr.drew;rw[<-aZ]at f v |-;clear aZ hz hg;have C:=trivial;refine ih 0 C ?_;refine ih 1 C ?_;refine ih 4 C ?_;refine ih 5 C ?_;refine ih 6 C ?_;have dG:=v.g_ ((D_ [] W).alloc (.cells #[i_ n] 2));have g:=Ls.one W n
 have b9:w.heap.size<=(W.alloc (.cells #[i_ n] 2)).heap.size:=by have:=f.size;simp;omega
 refine hQ 2 λK H=>?_
 go_simp;refine H.out _ _ (λ_=>C) ?_;clear H K
 refine hQ 3 λK H=>?_
 refine AK dG g b9 o_ ?_;intro ay an w2 bf m;have ad:=m.gr [] w (G_ _) (f.alloc _)
 refine hS H C λ_=>?_
 clear H K
 refine hQ 7 λK H=>?_
 refine AK bf (D.out _ ad) ad.size p_ ?_;intro a8 aN ai cK a;have S:=a.gr [] w (G_ _) ad
 refine hS H C λ_=>?_
 clear H K;refine ih 8 C ?_;refine hA k_ ?_ _;go_wp2
 all_goals
  rw[aD.out];have hi:=aR.out;refine⟨a8,aN,?_,by rw[hi];exact cK.ls,by rw[hi];exact iQ cK,S⟩;rw[hi];simp;omega):G:=h
theorem Id(h:G:=by
 go_wp2;refine D8 (v:=.tuple #[i_ (id / 1048576-1),i_ (id % 1048576),.bool true]) k_ rfl ?_;rw[aD.out];exact⟨AU (by rw[D.out,P_ o_]) (by rw[aq.out,P_ o_]) p_,rfl⟩):G:=h
theorem Iu(h:G:=by
 go_wp2;go_roundw
 case rel=>exact⟨j+1,ys,ay,an,by omega,by go_num,rfl,h_ (by rw[k.out,y.out,aq.out];simp),a,d,aE⟩
 case measure=>simp[intOf];omega):G:=h
theorem Iz(h:G:=by
 go_wp2;refine D8 (v:=.tuple #[i_ 0,i_ 0,.bool false]) k_ rfl ?_;rw[aD.out];exact⟨AU (by rw[D.out,Q_ h]) (by rw[aq.out,Q_ h]) p_,rfl⟩):G:=h
theorem IC(h:G:=by
 go_roundw
 case rel=>exact⟨i+1,ys,bg,bo,by omega,by go_num,rfl,h_ (by rw[aR.out];simp),by omega,hz,aO⟩
 case measure=>simp[intOf];omega):G:=h
theorem I5(h:G:=by
 go_wp2;rw[aD.out];have I:=M.out;rw[W_ (by rw[hW];omega)]at I;rw[<-I];exact⟨A,c,rfl,R,cJ,J.trans F⟩):G:=h
theorem Di{P:Program}{md:Region.Mode}{S:World->Prop}{N:Nat}{l:List Oper}(i j:Nat){aN d:Oper}{r1 r2:List Oper}{fuel:Nat}{listed:Array Bool}{w:World}(hi:∀e:Act->World->Prop,Shut (∀a w,(i<N->S w)->jI P md l.toArray Q S N fuel (listed.setIfInBounds i true) a w->e a w)->if Region.wanted aN (yielded l.toArray a.tmps)=true then Oper.wp P aN a w e Q else e (a.put aN.dst undef) w)(hj:∀e:Act->World->Prop,Shut (∀a w,(j<N->S w)->jI P md l.toArray Q S N fuel (listed.setIfInBounds j true) a w->e a w)->if Region.wanted d (yielded l.toArray a.tmps)=true then Oper.wp P d a w e Q else e (a.put d.dst undef) w)(h1:l.drop i=aN::r1:=by rfl)(h2:l.drop j=d::r2:=by rfl)(hr:Region.ready md l.toArray listed=[i,j]:=by kernel_rfl):jI P md l.toArray Q S N (fuel+1) listed a w:=by
 exact KK
abbrev zs(l:List Int):List Value:=l.map (Value.int .i64)
abbrev Ls(w:World)(A:Option Addr)(l:List Int):Prop:=Ns w 2 A l
def Zr(base:Nat)(w:World)(A:Option Addr)(c:Nat)(l:List Int):Prop:=w.ownsRow base 2 1 (.slice A l.length c) l.length (zs l)
section
variable{base c:Nat}{w w':World}{A:Option Addr}{l xs news:List Int}
theorem Zr.ls(h:Zr base w A c l):Ls w A l:=Sl.iG h
theorem Zr.g_(h:Zr base w A c l)(hg:Gr [] w w'):Zr base w' A c l:=iu h hg
theorem Zr.nil:Zr base w none 0 []:=iJ _ _ _ _
theorem yQ(l:List Int):∀u∈zs l,u.oneCell'=true:=λu hu=>by
 obtain⟨x,_,rfl⟩:=D2.1 hu
 rfl
theorem Ls.one(w:World)(x:Int):Sl (w.alloc (.cells #[i_ x] 2)) 2 1 (j_ w.heap.size) 1 (zs [x]):=
 ⟨rfl,λ_=>⟨_,0,#[i_ x],_,rfl,L_ w _ _,λj u hu=>by simpa using hu⟩⟩
theorem Cf{rest:List Oper}{o:Oper}{s x:Operand}{p:Option Addr}{aI m n0:Nat}(ao:Zr base w p aI xs)(hr:Sl w q 1 A m (zs news))(hb:base<=w.heap.size)(hn:xs.length+m<=1000000000)(h:∀(A':Option Addr) (c':Nat) (w':World),Zr base w' A' c' (xs++news)->App base 2 w w'->wpList prog ops Q rest (a.put o.dst (.slice A' (n0+m) c')) w')(ap:o.guard=none:=by rfl)(ho:o.op=.call {callee:=.builtin .append,args:=#[s,x],argTypes:=#[27,27]}:=by rfl)(hs:a.eval s=.slice p n0 aI:=by rfl)(I:a.eval x=.slice A m c:=by rfl)(cz:xs.length=n0:=by first|rfl|(simp;done)):
 wpList prog ops Q (o::rest) a w:=by
 obtain⟨bz,bw,br,bi,bf⟩:=info_parts infoI64
 have Y:=by have:=hr.1;simpa using this
 subst cz
 refine iD w ap s x _ ho base 2 bz _ 1 8 underlying27 bw br bi bf rfl d_ d_ p xs.length aI (zs xs) hs ao A m c (zs news) I hr (yQ _) o_ hb λA' c' w' h1 h2=>h A' c' w' ?_ h2
 unfold Zr;rw[H_,Y,zs,Ed];exact h1
theorem AK{o:Oper}{K:Act->World->Prop}{E:Prop}{s x:Operand}{p:Option Addr}{aI m n0:Nat}(ao:Zr base w p aI xs)(hr:Sl w q 1 A m (zs news))(hb:base<=w.heap.size)(hn:xs.length+m<=1000000000)(h:∀(A':Option Addr) (c':Nat) (w':World),Zr base w' A' c' (xs++news)->App base 2 w w'->K (a.put o.dst (.slice A' (n0+m) c')) w')(ap:o.guard=none:=by rfl)(ho:o.op=.call {callee:=.builtin .append,args:=#[s,x],argTypes:=#[27,27]}:=by rfl)(hs:a.eval s=.slice p n0 aI:=by rfl)(I:a.eval x=.slice A m c:=by rfl)(cz:xs.length=n0:=by first|rfl|(simp;done)):
 if Region.wanted o (yielded ops a.tmps)=true then Oper.wp prog o a w K Q else E:=by
 obtain⟨bz,bw,br,bi,bf⟩:=info_parts infoI64
 have Y:=by have:=hr.1;simpa using this
 subst cz
 refine nY ap s x _ ho base 2 bz _ 1 8 underlying27 bw br bi bf rfl d_ d_ p xs.length aI (zs xs) hs ao A m c (zs news) I hr (yQ _) o_ hb λA' c' w' h1 h2=>h A' c' w' ?_ h2
 unfold Zr;rw[H_,Y,zs,Ed];exact h1
end
theorem t2(A:Option Addr)(c:Nat)(l:List Int)(n:Int)(w:World)(h:Ns w tb A l)(hl:l.length<=1000000000):
 Calls prog 18 #[.slice A l.length c,i_ n] w λe w'=>e=.returned (.bool (decide (n∈l)))/\w=w':=by
 refine hX λQ aD=>?_
 go_enter func18,ntmps18
 go_wp2
 go_loop [5] (λar=>∃k:Nat,k<=l.length/\ar=i_ k/\n∉l.take k) (λar=>l.length-(intOf ar).toNat)
 case atStart=>exact⟨0,N_ _,by go_num,by simp⟩
 case round=>
  obtain⟨k,hk,rfl,G⟩:=hrel;have aR:=h_ G;clear G
  by_cases aj:k<l.length
  .obtain⟨b,off,U,hc⟩:=h.at_ aj;subst U
   by_cases he:l[k]=n
   .have q:(l[k]==n)=true:=by simp[he]
    have O:=h_ (show n∈l from he▸J_ aj);clear he;go_wp2;rw[aD.out];exact⟨by rw[Ek O.out],rfl⟩
   .have q:(l[k]==n)=false:=by simp[he]
    have O:=h_ (show n∉l.take (k+1) by
     rw[O_ aj,T_];rintro(h1|h1)
     .exact aR.out h1
     .exact he (R_.1 h1).symm)
    clear he;go_wp2;go_round
    case rel=>exact⟨k+1,by omega,by go_num,O.out⟩
    case measure=>simp[intOf];omega
  .go_wp2;rw[aD.out];refine⟨?_,rfl⟩
   have hn:=by have:=aR.out;rwa [W_ o_]at this
   rw[EU hn]
def insL(l:List Int)(n:Int):List Int:=if n∈l then l else l.takeWhile (λx=>decide (x<n))++[n]++l.dropWhile (λx=>decide (x<n))
def jF(xs:List Int)(w:World)(e:Ending)(w':World):Prop:=∃(A:Option Addr) (c:Nat),e=.returned (.slice A xs.length c)/\Ls w' A xs/\xs.length<=c/\Gr [] w w'
theorem Ls.drop{w:World}{A:Option Addr}{l:List Int}(h:Ls w A l){k:Nat}(hk:k<=l.length)(q:Nat)(aq:l.length<=q):Sl w 2 1 (if q=k then A else A.map (·.add k)) (l.length-k) (zs (l.drop k)):=by
 refine⟨by simp,λh0=>?_⟩;obtain⟨b,off,cs,fz,U,hb,hc⟩:=h.2 o_;subst U;rw[P_ o_];refine⟨b,off+k,cs,fz,by simp[mD],hb,λj u hu=>?_⟩;rw[Fr];refine hc _ u ?_;rw[Eq]at hu |-;rw[<-hu,FK]
theorem sV{ts rs:List Int}{n:Int}(hn:n∉ts++rs)(h1:∀x∈ts,x<n)(h2:∀x r,rs=x::r->¬x<n):insL (ts++rs) n=(ts++[n])++rs:=by
 unfold insL;rw[P_ hn,List.takeWhile_append_of_pos (by simpa using h1),List.dropWhile_append_of_pos (by simpa using h1)]
 cases rs with
 |nil=>simp
 |cons x r=>
  have:=h2 x r rfl
  rw[List.takeWhile_cons_of_neg (by simpa using this),List.dropWhile_cons_of_neg (by simpa using this)];simp
theorem ins_any(A:Option Addr)(c:Nat)(l:List Int)(n:Int)(w:World)(h:Ls w A l)(hl:l.length<=100000000)(Z:l.length<=c):
 Calls prog 65 #[.slice A l.length c,i_ n] w (jF (insL l n) w):=by
 refine hX λQ aD=>?_
 have j:=t2 A c l n w h o_
 cases aB:decide (n∈l)with
 |true=>
  rw[aB]at j;have aW:=h_ j;have HA:=h_ (show insL l n=l by unfold insL;rw[Q_ (by simpa using aB)]);clear j aB
  go_enter func65,ntmps65
  go_wp2_with (go_at_call 18;refine aW.out.mono ?_;rintro e w'⟨rfl,rfl⟩)
  rw[aD.out];unfold jF;rw[HA.out];exact⟨A,c,rfl,h,Z,D_ _ _⟩
 |false=>
  rw[aB]at j;have aW:=h_ j;have a2:=h_ (show n∉l by simpa using aB);clear j aB
  go_enter func65,ntmps65
  go_wp2_with (go_at_call 18;refine aW.out.mono ?_;rintro e w'⟨rfl,rfl⟩)
  go_loopw [5,6] (λG ar wr=>∃(ts rs:List Int) (a6:Option Addr) (c5:Nat),Hid (l=ts++rs)/\Hid (∀x∈ts,x<n)/\G=.slice a6 ts.length c5/\ar=i_ ts.length/\Zr w.heap.size wr a6 c5 ts/\Gr [] w wr) (λ_ ar _=>l.length-(intOf ar).toNat)
  case atStart=>exact⟨[],l,none,0,h_ rfl,h_ s_,rfl,by go_num,Zr.nil,D_ _ _⟩
  case round=>
   obtain⟨ts,rs,a6,c5,bg,bG,rfl,rfl,hz,hg⟩:=hrel;have aK:=hg.size
   have d:ts.length<=l.length:=by rw[bg.out];simp
   by_cases aj:ts.length<l.length
   .obtain⟨b,off,U,hc⟩:=h.at_ aj;subst U;have ah:=hg.f_ hc s_;clear hc;obtain⟨x,I⟩:=nm_ (l[ts.length]);rw[<-I]at ah;have M:=h_ I;clear I
    by_cases aE:x<n
    .have dG:=hz.g_ ((D_ [] wr).alloc (.cells #[i_ x] 2));have g:=Ls.one wr x
     have b9:w.heap.size<=(wr.alloc (.cells #[i_ x] 2)).heap.size:=by simp;omega
     go_wp2_with (at_builtin;refine Cf dG g b9 o_ ?_;intro ay an w2 bf m)
     go_roundw
     case rel=>
      have cF:l=(ts++[x])++rs.tail:=by
       rw[M.out];have e:=bg.out
       cases ax:rs with
       |nil=>rw[ax]at e;rw[e]at aj;simp at aj
       |cons y r=>rw[ax]at e;subst e;simp
      exact⟨ts++[x],rs.tail,ay,an,h_ cF,h_ (λz hz=>by
       rcases T_.1 hz with hz|hz
       .exact bG.out z hz
       .rw[R_.1 hz]
        exact aE),by simp,by simp,bf,m.gr [] w (G_ _) (hg.alloc _)⟩
     case measure=>simp[intOf];omega
    .have D:Hid (∀w',Gr [] w w'->Sl w' 2 1 (if c=ts.length then some (c_ b off) else some (c_ b (off+ts.length))) (l.length-ts.length) (zs (l.drop ts.length))):=h_ (λw' hg=>by
      have:=Ls.drop (w:=w') (Sl.g_ h hg) d c Z
      simpa[mD]using this)
     have aR:Hid (insL l n=(ts++[n])++l.drop ts.length):=h_ (by
      have e:=bg.out;have hn:=a2.out;rw[e]at hn
      have aL:l.drop ts.length=rs:=by rw[e];simp
      rw[aL]
      conv=>lhs;rw[e]
      exact sV hn bG.out (λy r hy=>by
       have bN:l[ts.length]=y:=by simp only[e,hy];simp
       rw[<-bN,<-M.out]
       exact aE))
     exact Gp
   .have D:=h_ (λw' hg=>Ls.drop (w:=w') (Sl.g_ h hg) d c Z)
    have aR:Hid (insL l n=(ts++[n])++l.drop ts.length):=h_ (by
     have e:=bg.out;have hn:=a2.out;rw[e]at hn
     have aL:l.drop ts.length=rs:=by rw[e];simp
     rw[aL]
     conv=>lhs;rw[e]
     exact sV hn bG.out (λy r hy=>by
      rw[e,hy]at aj
      simp at aj))
    exact Gp
def isRef(v:Vl):Bool:=v.r&&(v.n !=0)
def mx(fs:List Vl):List Int:=(fs.filter isRef).map (·.n)
def iP(h:List Ob):List Int:=h.flatMap λo=>mx o.fs
def lT(l:List Int):List Int:=l.foldl insL []
structure Asc(ys:List Int)(P:Int->Prop):Prop where
 lt:ys.Pairwise (· < ·)
 mem:∀x,x∈ys↔P x
def vS(l:List Int):Prop:=∀xs:List Int,xs.Nodup->(∀x∈xs,x∈l)->xs.length<=50000000
theorem qy:∀(xs:List Int) {l:List Int},xs.Nodup->(∀x∈xs,x∈l)->xs.length<=l.length
 |[],_,_,_=>N_ _
 |x::r,l,hn,hs=>by
  have I:=hs x E0
  have hr:=qy r (l:=l.erase x) (FJ.1 hn).2 λy hy=>by
   have a:y≠x:=λe=>(FJ.1 hn).1 (e▸hy)
   exact(List.mem_erase_of_ne a).2 (hs y (Eo _ hy))
  have h1:=List.length_erase_of_mem I;have h2:=List.length_pos_of_mem I;simp only[D3];omega
theorem pO{p:Int->Bool}:∀(l:List Int),∀x∈l.takeWhile p,p x=true
 |[],x,I=>by cases I
 |y::l,x,I=>by
  rw[List.takeWhile_cons]at I;split at I
  .rename_i hp
   rcases M_.1 I with rfl|I
   .exact hp
   .exact pO l x I
  .cases I
theorem vS.of_le{l:List Int}(h:l.length<=50000000):vS l:=λxs hn hs=>by
 have:=qy xs hn hs
 omega
theorem zR{l:List Int}{n:Int}(h:l.Pairwise (· < ·)):Asc (insL l n) (λx=>x∈l∨x=n):=by
 unfold insL;split
 .rename_i hn;exact⟨h,λx=>⟨.inl,λh=>h.elim id (λe=>e▸hn)⟩⟩
 .rename_i hn;have e:=List.takeWhile_append_dropWhile (p:=λx=>decide (x<n)) (l:=l)
  have X:∀x∈l.takeWhile (λx=>decide (x<n)),x<n:=λx I=>by
   have:=pO _ x I
   simpa using this
  have hd:∀x∈l.dropWhile (λx=>decide (x<n)),n<x:=by
   generalize c9:l.dropWhile (λx=>decide (x<n))=ds at*
   cases ds with
   |nil=>intro x I;cases I
   |cons y r=>
    have hy:¬y<n:=by
     have h1:=List.head?_dropWhile_not (p:=λx=>decide (x<n)) (l:=l);rw[c9]at h1
     simpa using h1
    have hp:(y::r).Pairwise (· < ·):=by
     rw[<-c9];exact h.sublist (List.dropWhile_sublist _)
    have d:n≠y:=λaP=>hn (by rw[<-e,aP];simp)
    have c:n<y:=by omega
    intro x I
    rcases M_.1 I with rfl|I
    .exact c
    .have:=List.rel_of_pairwise_cons hp I
     omega
  constructor
  .rw[List.pairwise_append,List.pairwise_append];refine⟨⟨h.sublist (List.takeWhile_sublist _),List.pairwise_singleton _ _,?_⟩,h.sublist (List.dropWhile_sublist _),?_⟩
   .intro a ha b hb;rw[R_.1 hb];exact X a ha
   .intro a ha b hb;have hb:=hd b hb
    rcases T_.1 ha with ha|ha
    .have:=X a ha
     omega
    .rw[R_.1 ha];exact hb
  .intro x;constructor
   .intro I
    rcases T_.1 I with I|I
    .rcases T_.1 I with I|I
     .exact .inl (by rw[<-e];exact D4 _ I)
     .exact .inr (R_.1 I)
    .exact .inl (by rw[<-e];exact E5 _ I)
   .rintro(I|rfl)
    .rw[<-e]at I
     rcases T_.1 I with I|I
     .exact D4 _ (D4 _ I)
     .exact E5 _ I
    .exact D4 _ (E5 _ (R_.2 rfl))
theorem yu(xs:List Int):∀{l:List Int},l.Pairwise (· < ·)->Asc (xs.foldl insL l) (λx=>x∈l∨x∈xs):=by
 induction xs with
 |nil=>intro l h;exact⟨h,λx=>by simp⟩
 |cons n xs ad=>
  intro l h;have h1:=zR (n:=n) h;have h2:=ad h1.lt;refine⟨h2.lt,λx=>?_⟩;rw[Fl,h2.mem,h1.mem,M_];exact or_assoc
theorem lS(xs:List Int):Asc (lT xs) (· ∈xs):=by
 have h:=yu xs (l:=[]) List.Pairwise.nil;exact⟨h.lt,λx=>(h.mem x).trans s_⟩
theorem Asc.nodup{ys:List Int}{P:Int->Prop}(h:Asc ys P):ys.Nodup:=h.lt.imp (λh=>Int.ne_of_lt h)
theorem mv{l xs:List Int}(h:vS l)(hs:∀x∈xs,x∈l):(lT xs).length<=50000000:=
 h _ (lS xs).nodup λx I=>hs x (((lS xs).mem x).1 I)
theorem q0(l:List Int)(x:Int):lT (l++[x])=insL (lT l) x:=by simp[lT]
theorem sG{fs:List Vl}{j:Nat}(hj:j<fs.length):mx (fs.take (j+1))=mx (fs.take j)++(if isRef fs[j]=true then[fs[j].n] else[]):=by
 rw[O_ hj];unfold mx;rw[Fx,Ed];split<;>simp_all
theorem sH(hi:i<h.length):iP (h.take (i+1))=iP (h.take i)++mx h[i].fs:=by
 rw[O_ hi];unfold iP;rw[Ej];simp
theorem pY(l:List Rw)(w:World)(av:qT e0 w U l)(hR:pL E w l)(hn:l.length<=100000000)(hf:vS (iP (hN l))):
 Calls prog 23 #[.agg #[.slice U l.length hc]] w (jF (lT (iP (hN l))) w):=by
 refine hX λQ aD=>?_
 obtain⟨W,g,aZ,hg,J,hB⟩:=box1 w 35 #[.slice U l.length hc];have ak:=h_ hf;clear hf
 go_enter func23,ntmps23
 go_wp2
 go_loopw [3,4] (λG ar wr=>∃(i:Nat) (xs:List Int) (A:Option Addr) (c:Nat),i<=l.length/\ar=i_ i/\G=.slice A xs.length c/\Hid (xs=lT (iP ((hN l).take i)))/\Ls wr A xs/\xs.length<=c/\Gr [] W wr) (λ_ ar _=>l.length-(intOf ar).toNat)
 case atStart=>exact⟨0,[],none,0,N_ _,by go_num,rfl,h_ rfl,EM _ _ _ _,G_ _,D_ _ _⟩
 case round=>
  obtain⟨i,xs,A,c,hi,rfl,rfl,M,R,cJ,F⟩:=hrel;have Z:=(hB.g_ F).f_ 0
  by_cases aj:i<l.length
  .obtain⟨b,off,P,bj,be⟩:=av.at_ aj;have HA:=h_ P;subst P;clear HA;have s:=J_ aj;obtain⟨hv,bO⟩:=hR _ s
   have bL:=h_ (show iP ((hN l).take (i+1))=iP ((hN l).take i)++mx l[i].o.fs by
    have bm:i<(hN l).length:=by rw[hW];exact aj
    rw[sH bm]
    simp[hN])
   have ap:=h_ (show ∀x∈iP ((hN l).take (i+1)),x∈iP (hN l) from λx I=>by
    unfold iP at I |-;obtain⟨o,ho,I⟩:=E2.1 I
    exact E2.2 ⟨o,Eu ho,I⟩)
   clear s;generalize l[i]=r at*;have c1:=(J.trans F).f_ be s_
   go_wp2_with fail
   go_loopw [3,5] (λG ar w2=>∃(j:Nat) (ys:List Int) (ay:Option Addr) (an:Nat),j<=r.o.fs.length/\ar=i_ j/\G=.slice ay ys.length an/\Hid (ys=lT (iP ((hN l).take i)++mx (r.o.fs.take j)))/\Ls w2 ay ys/\ys.length<=an/\Gr [] W w2) (λ_ ar _=>r.o.fs.length-(intOf ar).toNat)
   case atStart=>exact⟨0,xs,A,c,N_ _,by go_num,rfl,h_ (by rw[M.out];simp[mx]),R,cJ,F⟩
   case round=>
    clear R cJ F Z c1;obtain⟨j,ys,ay,an,hj,rfl,rfl,k,f,d,ad⟩:=hrel;have Z:=(hB.g_ ad).f_ 0;have c1:=(J.trans ad).f_ be s_
    by_cases B:j<r.o.fs.length
    .obtain⟨b2,p,m,b4,bo⟩:=hv.at_ B;have y:=h_ (sG B)
     have bg:=h_ (show ys.length<=50000000 by
      rw[k.out]
      refine mv ak.out λx I=>ap.out x ?_
      rw[bL.out]
      rcases T_.1 I with I|I
      .exact D4 _ I
      .refine E5 _ ?_;unfold mx at I |-;obtain⟨v,hv,rfl⟩:=D2.1 I;have hv:=EO.1 hv
       exact D2.2 ⟨v,EO.2 ⟨Eu hv.1,hv.2⟩,rfl⟩)
     generalize r.o.fs[j]=v at*;have p0:=(J.trans ad).f_ b4 s_;have p1:=(J.trans ad).f_ bo s_;rw[m]at c1;have aE:=ad.alloc (.cells #[.bool v.r,i_ v.n] 38);have a:=Sl.g_ f ((D_ [] wr).alloc (.cells #[.bool v.r,i_ v.n] 38))
     cases Y:v.r with
    |false=>
     rw[Y]at p0 a aE;have aq:=h_ (show isRef v=false by unfold isRef;rw[Y];rfl);clear Y;exact Iu
    |true=>
     rw[Y]at p0 a aE
     by_cases X:v.n=0
     .have q:(v.n !=0)=false:=by simp[X]
      have aq:=h_ (show isRef v=false by unfold isRef;rw[q,Bool.and_false]);clear Y X;exact Iu
     .have q:(v.n !=0)=true:=by simp[X]
      have aq:=h_ (show isRef v=true by unfold isRef;rw[Y,q];rfl);clear Y X
      go_wp2_with (go_at_call 65;refine(ins_any ay an ys v.n (wr.alloc (.cells #[.bool true,i_ v.n] 38)) a (by have:=bg.out;omega) d).mono ?_;unfold jF;rintro e ai⟨a8,aN,rfl,u,bU,S⟩)
      go_roundw
      case rel=>exact⟨j+1,insL ys v.n,a8,aN,by omega,by go_num,rfl,h_ (by rw[y.out,aq.out,Q_ rfl,<-Er,q0,<-k.out]),u,bU,aE.trans S⟩
      case measure=>simp[intOf];omega
    .go_wp2;go_roundw
     case rel=>exact⟨i+1,ys,ay,an,by omega,by go_num,rfl,h_ (by rw[bL.out,k.out,W_ (l:=r.o.fs) o_]),f,d,ad⟩
     case measure=>simp[intOf];omega
  .exact I5
theorem vq(A:Option Addr)(c:Nat)(l:List Vl)(w:World)(h:tF cp w A l)(hn:l.length<=1000000000):
 Calls prog 151 #[.slice A l.length c] w λe w'=>∃(A':Option Addr) (c':Nat),
  e=.returned (.slice A' l.length c')/\Vs w' A' l/\Gr [] w w':=by
 obtain⟨bz,bw,br,bi,bf⟩:=info_parts infoVl
 have aq:=λW=>Lib.run_eql_slice_nil (P:=prog) W 54 38 A l.length c 0 0 underlying54
 rcases A with _|d
 .have h0:l.length=0:=by
   rcases EY l.length with h0|h0
   .exact h0
   .obtain⟨b,off,U,_⟩:=Sl.f_ h h0
    cases U
  have h1:l=[]:=En h0;subst h1;simp only[EB]at aq |-
  go_enter func151,ntmps151
  go_wp2;go_ret;exact⟨none,0,rfl,EM _ _ _ _,D_ _ _⟩
 .generalize hL:l.length=n at*
  go_enter func151,ntmps151
  go_wp2_with (at_builtin;refine iD _ rfl (.tmp 5) (.tmp 6) 54 rfl w.heap.size 38 bz _ 2 16 underlying54 bw br bi bf rfl d_ d_ _ 0 0 [] rfl (yc _ _ _ _ _ s_ s_) (some d) n c (iR l) rfl (by subst hL;exact Sl.alloc h _) (l7 l) o_ s_ ?_;intro A1 c1 w1 a f;simp only[U_,Ea]at a)
  go_ret;refine⟨A1,c1,pA o_,?_,f.gr [] w o_ ((D_ _ w).alloc _)⟩;subst hL;exact Sl.iG a
theorem wQ(o:Ob)(A:Option Addr)(c:Nat)(w:World)(h:tF cp w A o.fs)(hn:o.fs.length<=1000000000):
 Calls prog 103 #[.agg #[i_ o.id,.slice A o.fs.length c]] w λe w'=>∃(A':Option Addr) (c':Nat),
  e=.returned (.agg #[i_ o.id,.slice A' o.fs.length c'])/\Vs w' A' o.fs/\Gr [] w w':=by
 obtain⟨id,fs⟩:=o;simp only at h hn |-;obtain⟨aT,-,-⟩:=pG w 56 #[i_ id,.slice A fs.length c] 56 #[i_ 0,n_];obtain⟨h0,h1⟩:=aT.iB;obtain⟨-,bB,-⟩:=pG w 56 #[i_ id,.slice A fs.length c] 56 #[i_ 0,n_]
 go_enter func103,ntmps103
 go_wp2_with fail
 go_region_with (go_at_call 151;refine(vq A c fs _ ((h.alloc _).alloc _).drew hn).mono ?_;rintro e w1⟨A1,c1,rfl,hv1,hg1⟩;have n:=bB.drew.gr hg1 s_;obtain⟨bX,cg⟩:=n.iB;have O:=n.hm 0;have C:=n.hm 1;obtain⟨b0,b5⟩:=(aT.drew.gr hg1 s_).iB)
 all_goals
  go_wp2
  (try simp only[Exit.inBlock,Exit.then])
  have d:=(n.hJ 0 (i_ id)).hJ 1 (.slice A1 fs.length c1);refine rr_ #[i_ id,.slice A1 fs.length c1] d underlying56 ⟨A1,c1,rfl,?_,?_⟩
  .exact Sl.ig hv1 n d_ (((D_ [w.heap.size+1] w1).setCell (.inl s_) _).setCell (.inl s_) _)
  .exact(((((D_ [] w).alloc _).alloc _).drew.trans hg1).setCell (.inr s_) _).setCell (.inr s_) _
theorem rE(A:Option Addr)(c:Nat)(l:List Rw)(id:Int)(w:World)(h:qT e0 w A l)(hn:l.length<=1000000000):
 Calls prog 102 #[.agg #[.slice A l.length c],i_ id] w λe w'=>e=.returned (i_ (js (hN l) id))/\Gr [] w w':=by
 have bg:=h_ (show js (hN l) id=iO (λr:Rw=>r.o.id==id) l 0 by unfold js hN;exact ns _ _ _ _ _ λ_ _=>rfl);generalize hL:l.length=n at*;have aT:Bk (w.alloc (.cells #[.slice A n c] 35)) w.heap.size 35 #[.slice A n c]:=L_ w _ _;have h0:(w.alloc (.cells #[.slice A n c] 35)).cell? (c_ w.heap.size 0)=some (.slice A n c):=aT.f_ 0
 go_enter func102,ntmps102
 go_wp2
 go_step3
 go_wp2
 go_step3
 go_wp2
 go_loopw [5,11] (λf i w'=>∃k:Nat,k<=n/\f=i_ (-1)/\i=i_ k/\js (hN l) id=iO (λr:Rw=>r.o.id==id) (l.drop k) k/\Gr [] w w') (λ_ i _=>n-(intOf i).toNat)
 case atStart=>exact⟨0,N_ _,rfl,rfl,bg.out,(D_ _ _).alloc _⟩
 case round=>
  obtain⟨k,hk,rfl,rfl,G,F⟩:=hrel;have aR:=h_ G;clear G
  by_cases aj:k<n
  .have aH:k<l.length:=by omega
   obtain⟨b,off,rfl,bj,be⟩:=(h.g_ F).at_ aH
   by_cases hv:l[k].o.id=id
   .have a:(l[k].o.id==id)=true:=by simp[hv]
    clear hv;go_wp2
    try rw[Exit.noGoto_ret]
    go_ret;exact⟨j0 (by rw[aR.out,lG _ _ _ _ o_ a]),F.alloc _⟩
   .have a:(l[k].o.id==id)=false:=by simp[hv]
    go_wp2;go_roundw
    case rel=>exact⟨k+1,by omega,rfl,by go_num,by rw[aR.out,ko _ _ _ _ o_ a],F.alloc _⟩
    case measure=>simp[intOf];omega
  .go_wp2
   try rw[Exit.noGoto_ret]
   go_ret;exact⟨j0 (by rw[aR.out,mg _ _ _ _ o_]),F⟩
theorem ym(A:Option Addr)(c:Nat)(l:List Rw)(id:Int)(w:World)(h:qT e0 w A l)(hr:pL E w l)(hn:l.length<=1000000000):
 Calls prog 60 #[.agg #[.slice A l.length c],i_ id] w λe w'=>
  (jn (hN l) id=none/\e=.returned (.tuple #[.agg #[i_ 0,n_],.bool false])/\Gr [] w w')∨
  ∃(o:Ob) (A':Option Addr) (c':Nat),jn (hN l) id=some o/\e=.returned (.tuple #[.agg #[i_ o.id,.slice A' o.fs.length c'],.bool true])/\Vs w' A' o.fs/\Gr [] w w':=by
 have aT:Bk (w.alloc (.cells #[.slice A l.length c] 35)) w.heap.size 35 #[.slice A l.length c]:=L_ w _ _;have a:=aT.alloc (.cells #[i_ 0,n_] 56);obtain⟨-,bB,-⟩:=pG w 35 #[.slice A l.length c] 56 #[i_ 0,n_];have h0:=a.f_ 0
 rcases nv (hN l) id with⟨hi,hg⟩|⟨k,hk,hi,hg⟩
 .go_enter func60,ntmps60
  go_wp2_with (go_at_call 102;refine(rE A c l id _ ((h.alloc _).alloc _) hn).mono ?_;rintro e w1⟨rfl,hg1⟩;have n:=bB.gr hg1 s_;have d:=a.gr hg1 s_;have I:=d.f_ 0;obtain⟨b0,b5⟩:=n.iB;have O:=n.hm 0;have C:=n.hm 1)
  have bO:=(n.hJ 0 (i_ 0)).hJ 1 (n_);refine lA #[i_ 0,n_] (.bool false) bO underlying56 (.inl ⟨hg,rfl,?_⟩);exact(((((D_ [] w).alloc _).alloc _).trans hg1).setCell (.inr s_) _).setCell (.inr s_) _
 .have aH:k<l.length:=by simpa[hN]using hk
  obtain⟨b,off,rfl,bj,be⟩:=h.at_ aH;obtain⟨bD,i⟩:=hr l[k] (J_ aH)
  have ho:(hN l)[k]=l[k].o:=by simp[hN]
  rw[ho]at hg;clear ho;obtain⟨⟨G,B⟩,av⟩:∃o,l[k].o=o:=⟨_,rfl⟩;rw[av]at bD i hg bj be;generalize l[k].A=j at*;generalize l[k].c=z at*;have M:=h_ hi;clear hi;have f:=jo (jo bj (.cells #[.slice (some (c_ b off)) l.length c] 35)) (.cells #[i_ 0,n_] 56);have g:=jo (jo be (.cells #[.slice (some (c_ b off)) l.length c] 35)) (.cells #[i_ 0,n_] 56);simp only at bD i f g
  go_enter func60,ntmps60
  go_wp2_with (first|(go_at_call 102;refine(rE _ c l id _ ((h.alloc _).alloc _) hn).mono ?_;rintro e w1⟨rfl,hg1⟩;rw[M.out];have d:=a.gr hg1 s_;have I:=d.f_ 0;have br:=hg1.f_ f s_;have bi:=hg1.f_ g s_)|(go_at_call 103;refine(wQ ⟨G,B⟩ j z _ (((bD.alloc _).alloc _).g_ hg1) i).mono ?_;rintro e w2⟨ay,an,rfl,bX,ad⟩;have n:=bB.gr (hg1.trans ad) s_;obtain⟨b0,b5⟩:=n.iB;have O:=n.hm 0;have C:=n.hm 1))
  have bO:=(n.hJ 0 (i_ G)).hJ 1 (.slice ay B.length an);refine lA #[i_ G,.slice ay B.length an] (.bool true) bO underlying56 (.inr ⟨⟨G,B⟩,ay,an,hg,rfl,?_,?_⟩)
  .exact Sl.ig bX n d_ (((D_ [w.heap.size+1] w2).setCell (.inl s_) _).setCell (.inl s_) _)
  .exact((((((D_ [] w).alloc _).alloc _).trans hg1).trans ad).setCell (.inr s_) _).setCell (.inr s_) _
theorem BE{x:Int}(h0:0<=x)(h1:x<9223372036854775808):bits .and .i64 x 1048575=x % 1048576:=
 bits_mask .i64 63 d_ (λn h0 h1=>by rw[E8];omega) 20 d_ x h0 h1
theorem AU{a b c d:Int}{x y:Bool}(h:a=b)(k:c=d)(l:x=y):Ending.returned (.tuple #[i_ a,i_ c,.bool x])=Ending.returned (.tuple #[i_ b,i_ d,.bool y]):=by rw[h,k,l]
def tv(id:Int):Int:=if id<1048576 then 0 else id / 1048576-1
def Cu(id:Int):Int:=if id<1048576 then 0 else id % 1048576
theorem qY(id:Int)(w:World)(hi:id<=9223372036854775807):
 Calls prog 13 #[i_ id] w λe w'=>e=.returned (.tuple #[i_ (tv id),i_ (Cu id),.bool (decide (1048576<=id))])/\w=w':=by
 have D:=h_ (show tv id=if id<1048576 then 0 else id / 1048576-1 from rfl);have aq:=h_ (show Cu id=if id<1048576 then 0 else id % 1048576 from rfl)
 refine hX λQ aD=>?_
 by_cases h:id<1048576
 .go_enter func13,ntmps13
  exact Iz
 .have ha:=BE (x:=id) o_ o_
  go_enter func13,ntmps13
  exact Id
theorem o6(id:Int)(w:World)(hi:id<=9223372036854775807):
 Calls prog 66 #[i_ id] w λe w'=>e=.returned (.tuple #[i_ (tv id),i_ (Cu id),.bool (decide (1048576<=id))])/\w=w':=by
 have D:=h_ (show tv id=if id<1048576 then 0 else id / 1048576-1 from rfl);have aq:=h_ (show Cu id=if id<1048576 then 0 else id % 1048576 from rfl)
 refine hX λQ aD=>?_
 by_cases h:id<1048576
 .go_enter func66,ntmps66
  exact Iz
 .have ha:=BE (x:=id) o_ o_
  go_enter func66,ntmps66
  exact Id
theorem wo(A B:Option Addr)(c d:Nat)(l k:List Int)(w:World)(h:Ls w A l)(hk:Ls w B k)(hl:l.length<=1000000000)(Y:k.length<=1000000000):
 Calls prog 21 #[.slice A l.length c,.slice B k.length d] w λe w'=>e=.returned (.bool (decide (l=k)))/\Gr [] w w':=by
 refine hX λQ aD=>?_
 by_cases iv:l.length=k.length
 .have bM:((l.length:Int) !=(k.length:Int))=false:=by simp[iv]
  have g:=h_ iv;clear iv
  go_enter func21,ntmps21
  go_wp2
  go_loopw [5] (λar wr=>∃i:Nat,i<=l.length/\ar=i_ i/\Hid (l.take i=k.take i)/\Gr [] w wr) (λar _=>l.length-(intOf ar).toNat)
  case atStart=>exact⟨0,N_ _,by go_num,h_ rfl,D_ _ _⟩
  case round=>
   obtain⟨i,hi,rfl,aR,hg⟩:=hrel
   by_cases aj:i<l.length
   .have f:i<k.length:=by have:=g.out;omega
    obtain⟨b,off,U,hc⟩:=h.at_ aj;obtain⟨b2,p,hB,bJ⟩:=hk.at_ f;subst U;subst hB;have ah:=hg.f_ hc s_;have au:=hg.f_ bJ s_;have bG:=h_ (O_ aj);have a:=h_ (O_ f);have M:=h_ (show l[i]≠k[i]->l≠k from λh e=>h (by subst e;rfl));generalize l[i]=x at*;generalize k[i]=y at*;clear hc bJ
    go_upto_region 6 with fail
    refine hC (λw'=>w'.cell? (c_ b (off+i))=some (i_ x)/\w'.cell? (c_ b2 (p+i))=some (i_ y)) 9 k_ ?_
    refine nc ⟨ah,au⟩ λC=>?_
    (iterate 9 refine jR C ?_)
    refine hA k_ ?_ _;replace hg:=hg.trans (D_ [] wr).drew;clear ah au C
    by_cases he:x=y
    .have q:(x !=y)=false:=by simp[he]
     have aq:=h_ he;clear he;go_wp2;go_roundw
     case rel=>exact⟨i+1,by omega,by go_num,h_ (by rw[bG.out,a.out,aR.out,aq.out]),hg⟩
     case measure=>simp[intOf];omega
    .have q:(x !=y)=true:=by simp[he]
     have aq:=h_ he;clear he;go_wp2;rw[aD.out];exact⟨by rw[EU (M.out aq.out)];rfl,hg⟩
   .go_wp2;rw[aD.out];have e:=aR.out;rw[W_ o_,W_ (by have:=g.out;omega)]at e;exact⟨by rw[Ek e];rfl,hg⟩
 .have bM:((l.length:Int) !=(k.length:Int))=true:=by simp;omega
  have aq:=h_ (show l≠k from λe=>iv (by rw[e]));clear iv
  go_enter func21,ntmps21
  go_wp2;rw[aD.out];exact⟨by rw[EU aq.out];rfl,D_ _ _⟩
theorem zX(A:Option Addr)(c:Nat)(l:List Rw)(id:Int)(w:World)(h:qT e0 w A l)(hr:pL E w l)(hn:l.length<=1000000000):
 Calls prog 14 #[.agg #[.slice A l.length c],i_ id] w λe w'=>∃(i:Int) (A':Option Addr) (n' c':Nat),e=.returned (.tuple #[.agg #[i_ i,.slice A' n' c'],.bool (jn (hN l) id).isSome])/\Gr [] w w':=by
 cases hg:jn (hN l) id with
 |none=>exact(yt A c l id w h hn hg).mono λe w'⟨h1,h2⟩=>⟨0,none,0,0,h1,h2⟩
 |some o=>exact(yr A c l id o w h hr hn hg).mono λe w'⟨A',c',h1,_,h2⟩=>⟨o.id,A',o.fs.length,c',h1,h2⟩
def pP(h:List Ob):List Int:=(lT (iP h)).filter λn=>(jn h n).isNone
theorem wP(l:List Rw)(w:World)(av:qT e0 w U l)(hR:pL E w l)(hn:l.length<=100000000)(hf:vS (iP (hN l))):
 Calls prog 24 #[.agg #[.slice U l.length hc]] w (jF (pP (hN l)) w):=by
 refine hX λQ aD=>?_
 obtain⟨W,g,aZ,hg,J,hB⟩:=box1 w 35 #[.slice U l.length hc];have bh:=mv hf (λx I=>I);have aW:=h_ (pY U hc l W (av.g_ J) (hR.g_ J) hn hf);have z:=h_ (λ(w':World)(h:Gr [] W w')(id:Int)=>zX U hc l id w' (av.g_ (J.trans h)) (hR.g_ (J.trans h)) o_);have aS:=hB.f_ 0;clear hf av hR
 go_enter func24,ntmps24
 go_wp2_with (go_at_call 23;refine aW.out.mono ?_;unfold jF;rintro e w2⟨B,d,rfl,R,t,ad⟩)
 obtain⟨xs,I⟩:=nm_ (lT (iP (hN l)));have M:=h_ I;rw[<-I]at R t bh |-;clear I aW aS;have r:=h_ (show ∀w',Gr [] w2 w'->Ls w' B xs from λw' h=>Sl.g_ R h);clear R
 go_loopw [3,5] (λG ar wr=>∃(i:Nat) (ys:List Int) (A:Option Addr) (c:Nat),i<=xs.length/\ar=i_ i/\G=.slice A ys.length c/\Hid (ys=(xs.take i).filter λn=>(jn (hN l) n).isNone)/\ys.length<=i/\Zr w2.heap.size wr A c ys/\Gr [] w2 wr) (λ_ ar _=>xs.length-(intOf ar).toNat)
 case atStart=>exact⟨0,[],none,0,N_ _,by go_num,rfl,h_ rfl,G_ _,Zr.nil,D_ _ _⟩
 case round=>
  obtain⟨i,ys,A,c,hi,rfl,rfl,k,s,hz,hg⟩:=hrel;have R:=r.out _ hg;have y:=ad.trans hg
  by_cases aj:i<xs.length
  .obtain⟨b,off,az,bj⟩:=R.at_ aj;subst az;have bG:=h_ (O_ aj)
   have f:=h_ (show ∀w',Ls w' (some (c_ b off)) xs->w'.cell? (c_ b (off+i))=some (i_ xs[i]) from λw' h=>by
    obtain⟨b1,aN,e,h1⟩:=h.at_ aj;injection e with e;injection e with aP aL;subst aP;subst aL
    exact h1)
   generalize xs[i]=x at*;have aS:=(hB.g_ y).f_ 0
   go_upto_region 6 with fail
   go_cut [7] (λp a7=>p=.bool (jn (hN l) x).isSome/\Zr w2.heap.size a7 A c ys/\Gr [] w2 a7)
   case first=>
    refine hC (λw'=>w'.cell? (c_ g 0)=some (.slice U l.length hc)/\w'.cell? (c_ b (off+i))=some (i_ x)) 12 k_ ?_;obtain⟨aJ,ci⟩:=nm_ wr.drew;have hd:=ci▸(D_ [] wr).drew;rw[<-ci]
    refine nc ⟨hd.f_ aS s_,hd.f_ bj s_⟩ λC=>?_
    replace hg:=hg.trans hd;replace y:=y.trans hd;replace hz:=hz.g_ hd;clear ci hd aS bj
    (iterate 5 refine jR C ?_)
    refine Di 5 9 (λK H=>?_) (λK H=>?_)
    .go_simp
     go_at_call 14
     refine(z.out _ y x).mono ?_;rintro e T⟨eC,aR,n4,c4,rfl,af⟩
     refine hS H ⟨af.f_ C.1 s_,af.f_ C.2 s_⟩ λC=>?_
     clear H K
     iterate 3 refine jR C ?_
     refine hQ 9 λK H=>?_
     go_simp;have q:=C;have hb:=L_ T 56 #[i_ 0,n_];have aE:Gr [] T (T.alloc (.cells #[i_ 0,n_] 56)):=(D_ [] T).alloc _
     refine hS H ⟨aE.f_ C.1 s_,aE.f_ C.2 s_⟩ λC=>?_
     clear H K
     refine hQ 10 λK H=>?_
     rw[Q_ r_];refine h4 56 _ _ rfl T.heap.size r_ #[i_ eC,.slice aR n4 c4] r_ 56 _ hb rfl k_ (by simp[Value.oneCell']) ?_;intro aF bB aC;have br:=Gr.hx (aE) aC s_
     refine hS H ⟨br.f_ q.1 s_,br.f_ q.2 s_⟩ λC=>?_
     clear H K;refine ih 11 C ?_;refine hA k_ ?_ _;go_wp2;go_meet;exact⟨rfl,(hz.g_ af).g_ br,(hg.trans af).trans br⟩
    .go_simp;have a:=C;have hb:=L_ aJ 56 #[i_ 0,n_];have aE:Gr [] aJ (aJ.alloc (.cells #[i_ 0,n_] 56)):=(D_ [] aJ).alloc _
     refine hS H ⟨aE.f_ C.1 s_,aE.f_ C.2 s_⟩ λC=>?_
     clear H K
     refine hQ 5 λK H=>?_
     go_simp
     go_at_call 14
     refine(z.out _ (y.trans aE) x).mono ?_;rintro e T⟨eC,aR,n4,c4,rfl,af⟩
     refine hS H ⟨af.f_ C.1 s_,af.f_ C.2 s_⟩ λC=>?_
     clear H K
     iterate 3 refine jR C ?_
     refine hQ 10 λK H=>?_
     rw[Q_ r_];refine h4 56 _ _ rfl aJ.heap.size r_ #[i_ eC,.slice aR n4 c4] r_ 56 _ (hb.g_ af) rfl k_ (by simp[Value.oneCell']) ?_;intro aF bB aC;have br:=Gr.hx (aE.trans af) aC s_
     refine hS H ⟨br.f_ a.1 s_,br.f_ a.2 s_⟩ λC=>?_
     clear H K;refine ih 11 C ?_;refine hA k_ ?_ _;go_wp2;go_meet;exact⟨rfl,(hz.g_ (D_ [] aJ)).g_ br,hg.trans br⟩
   case rest=>
    obtain⟨rfl,bf,S⟩:=hcut;have j:=r.out _ S;clear hz R hg y aS bj;have hz:=bf;have aS:=f.out _ j;clear bf;have aT:=h_ (show(jn (hN l) x).isNone= !(jn (hN l) x).isSome by cases jn (hN l) x<;>rfl)
    cases hs:(jn (hN l) x).isSome with
    |true=>
     have aq:=h_ (show(xs.take (i+1)).filter (λn=>(jn (hN l) n).isNone)=ys by
      have e:=aT.out;rw[hs]at e;rw[bG.out,Fx,<-k.out,List.filter_cons_of_neg (by rw[e];decide)]
      simp)
     clear hs;go_wp2;go_roundw
     case rel=>exact⟨i+1,ys,A,c,by omega,by go_num,rfl,h_ aq.out.symm,by omega,hz,S⟩
     case measure=>simp[intOf];omega
    |false=>
     have aq:=h_ (show(xs.take (i+1)).filter (λn=>(jn (hN l) n).isNone)=ys++[x] by
      have e:=aT.out;rw[hs]at e;rw[bG.out,Fx,<-k.out,List.filter_cons_of_pos (by rw[e];decide)]
      simp)
     clear hs;have aE:=(D_ [] wc).alloc (.cells #[i_ x] 2);have dG:=hz.g_ aE;have b9:=(S.trans aE).size
     go_wp2_with (at_builtin;refine Cf dG (Ls.one wc x) b9 o_ ?_;intro ay an ae bQ m)
     have N:=m.gr [] w2 (G_ _) (S.trans aE);go_roundw
     case rel=>exact⟨i+1,ys++[x],ay,an,by omega,by go_num,by simp,h_ aq.out.symm,by simp;omega,bQ,N⟩
     case measure=>simp[intOf];omega
  .go_wp2;rw[aD.out];have e:=k.out;rw[W_ o_]at e
   have aL:pP (hN l)=ys:=by rw[e,M.out];rfl
   rw[aL];exact⟨A,c,rfl,hz.ls,iQ hz,J.trans y⟩
def qC(id:Int):Bool:=decide (1048576<=id)
def kD(h:List Ob):List Int:=(h.filter λo=>qC o.id).map λo=>tv o.id
def nu(h:List Ob):List Int:=h.map (·.id)
def np(a:List Int)(i:Int):Bool:=qC i&&decide (tv i∈a)
def allH(h:List Ob):List Int:=lT (iP h++nu h)
def oG(h:List Ob)(a:List Int):List Int:=(allH h).filter (np a)
theorem sD(hi:i<h.length):kD (h.take (i+1))=kD (h.take i)++(if qC h[i].id=true then[tv h[i].id] else[]):=by
 rw[O_ hi];unfold kD;rw[Fx,Ed];split<;>simp_all
theorem q2(h:List Ob):(kD h).length<=h.length:=by unfold kD;rw[Et];exact Em _ _
theorem sC(l:List Int):(lT l).length<=l.length:=qy _ (lS l).nodup λx I=>((lS l).mem x).1 I
theorem wt(l:List Rw)(w:World)(av:qT e0 w U l)(hn:l.length<=50000000)(aK:∀r∈l,r.o.id<=9223372036854775807):
 Calls prog 25 #[.agg #[.slice U l.length hc]] w (jF (lT (kD (hN l))) w):=by
 refine hX λQ aD=>?_
 obtain⟨W,g,aZ,hg,J,hB⟩:=box1 w 35 #[.slice U l.length hc]
 go_enter func25,ntmps25
 go_wp2
 go_loopw [3,4] (λG ar wr=>∃(i:Nat) (xs:List Int) (A:Option Addr) (c:Nat),i<=l.length/\ar=i_ i/\G=.slice A xs.length c/\Hid (xs=lT (kD ((hN l).take i)))/\xs.length<=i/\Ls wr A xs/\xs.length<=c/\Gr [] W wr) (λ_ ar _=>l.length-(intOf ar).toNat)
 case atStart=>exact⟨0,[],none,0,N_ _,by go_num,rfl,h_ rfl,G_ _,EM _ _ _ _,G_ _,D_ _ _⟩
 case round=>
  obtain⟨i,xs,A,c,hi,rfl,rfl,M,cz,R,cJ,F⟩:=hrel;have Z:=(hB.g_ F).f_ 0
  by_cases aj:i<l.length
  .obtain⟨b,off,P,bj,be⟩:=av.at_ aj;subst P;have aI:=(J.trans F).f_ bj s_;have hid:=aK _ (J_ aj)
   have bG:=h_ (show kD ((hN l).take (i+1))=kD ((hN l).take i)++(if qC l[i].o.id=true then[tv l[i].o.id] else[]) by
    have bm:i<(hN l).length:=by rw[hW];exact aj
    rw[sD bm]
    simp[hN])
   have m:=h_ (show(lT (kD ((hN l).take (i+1)))).length<=i+1 by
    have h1:=sC (kD ((hN l).take (i+1)));have h2:=q2 ((hN l).take (i+1));rw[Ey]at h2
    omega)
   generalize l[i].o.id=x at*;clear bj be
   cases hr:qC x with
   |true=>
    have q:decide (1048576<=x)=true:=hr;have aR:=h_ (show lT (kD ((hN l).take (i+1)))=insL xs (tv x) by rw[bG.out,hr,Q_ rfl,q0,<-M.out]);have j:=o6 x wr hid;rw[q]at j;have aW:=h_ j;clear hr q j
    go_wp2_with (first|(go_at_call 66;refine aW.out.mono ?_;rintro e w2⟨rfl,rfl⟩)|(go_at_call 65;refine(ins_any A c xs (tv x) wr R o_ cJ).mono ?_;unfold jF;rintro e ai⟨a8,aN,rfl,u,bU,S⟩))
    go_roundw
    case rel=>exact⟨i+1,insL xs (tv x),a8,aN,by omega,by go_num,rfl,h_ aR.out.symm,by rw[<-aR.out];exact m.out,u,bU,F.trans S⟩
    case measure=>simp[intOf];omega
   |false=>
    have aR:=h_ (show lT (kD ((hN l).take (i+1)))=xs by rw[bG.out,hr,P_ d_,List.append_nil,<-M.out]);have q:decide (1048576<=x)=false:=hr;have j:=o6 x wr hid;rw[q]at j;have aW:=h_ j;clear hr q j
    go_wp2_with (go_at_call 66;refine aW.out.mono ?_;rintro e w2⟨rfl,rfl⟩)
    go_roundw
    case rel=>exact⟨i+1,xs,A,c,by omega,by go_num,rfl,h_ aR.out.symm,by omega,R,cJ,F⟩
    case measure=>simp[intOf];omega
  .exact I5
theorem vm(l:List Rw)(B:Option Addr)(d:Nat)(rs:List Int)(w:World)(av:qT e0 w U l)(hR:pL E w l)(hn:l.length<=50000000)(hf:vS (iP (hN l)++nu (hN l)))(aK:∀x∈iP (hN l)++nu (hN l),x<=9223372036854775807)(ax:Ns w tb B rs)(bh:rs.length<=1000000000):
 Calls prog 26 #[.agg #[.slice U l.length hc],.slice B rs.length d] w (jF (oG (hN l) rs) w):=by
 refine hX λQ aD=>?_
 obtain⟨W,g,aZ,hg,J,hB⟩:=box1 w 35 #[.slice U l.length hc];have ak:=h_ hf;have bl:=h_ aK;have aW:=h_ (pY U hc l W (av.g_ J) (hR.g_ J) o_ (λxs hn hs=>hf xs hn λx I=>D4 _ (hs x I)));have v:=h_ (show ∀w',Gr [] w w'->∀n:Int,Calls prog 18 #[.slice B rs.length d,i_ n] w' (λe w''=>e=.returned (.bool (decide (n∈rs)))/\w'=w'') from λw' hg n=>t2 B d rs n w' (Sl.g_ ax hg) bh);have aS:=hB.f_ 0;clear hf aK hR
 go_enter func26,ntmps26
 go_wp2_with (go_at_call 23;refine aW.out.mono ?_;unfold jF;rintro e w2⟨X,z,rfl,R,t,ad⟩)
 obtain⟨aU,bX⟩:=nm_ (lT (iP (hN l)));have f:=h_ bX;rw[<-bX]at R t |-;clear bX aW aS
 go_loopw [5,6] (λG ar wr=>∃(i:Nat) (xs:List Int) (A:Option Addr) (c:Nat),i<=l.length/\ar=i_ i/\G=.slice A xs.length c/\Hid (xs=lT (iP (hN l)++nu ((hN l).take i)))/\Ls wr A xs/\xs.length<=c/\Gr [] W wr) (λ_ ar _=>l.length-(intOf ar).toNat)
 case atStart=>exact⟨0,aU,X,z,N_ _,by go_num,rfl,h_ (by rw[f.out];simp[nu]),R,t,ad⟩
 case round=>
  clear R t ad;obtain⟨i,xs,A,c,hi,rfl,rfl,M,R,cJ,F⟩:=hrel;have Z:=(hB.g_ F).f_ 0
  have y:=h_ (show xs.length<=50000000 by
   rw[M.out]
   refine mv ak.out λx I=>?_
   rcases T_.1 I with I|I
   .exact D4 _ I
   .refine E5 _ ?_;obtain⟨o,ho,rfl⟩:=D2.1 I
    exact D2.2 ⟨o,Eu ho,rfl⟩)
  by_cases aj:i<l.length
  .obtain⟨b,off,P,bj,be⟩:=av.at_ aj;subst P;have aI:=(J.trans F).f_ bj s_
   have bG:=h_ (show lT (iP (hN l)++nu ((hN l).take (i+1)))=insL xs l[i].o.id by
    have bm:i<(hN l).length:=by rw[hW];exact aj
    rw[O_ bm];unfold nu;rw[Ed,<-Er];simp only[E1,Ff];rw[q0];have e:=M.out;unfold nu at e;rw[<-e]
    simp[hN])
   generalize l[i].o.id=x at*;clear bj be
   go_wp2_with (go_at_call 65;refine(ins_any A c xs x wr R (by have:=y.out;omega) cJ).mono ?_;unfold jF;rintro e ai⟨a8,aN,rfl,u,bU,S⟩)
   go_roundw
   case rel=>exact⟨i+1,insL xs x,a8,aN,by omega,by go_num,rfl,h_ bG.out.symm,u,bU,F.trans S⟩
   case measure=>simp[intOf];omega
  .go_wp2
   have HA:Hid (xs=allH (hN l)):=h_ (by
    have I:=M.out;rw[W_ (by rw[hW];omega)]at I
    exact I)
   have b6:=h_ (show ∀x∈xs,x<=9223372036854775807 from λx I=>bl.out x (((lS _).mem x).1 (by rw[HA.out]at I;exact I)));have r:=h_ (show ∀w',Gr [] wr w'->Ls w' A xs from λw' h=>Sl.g_ R h);have cz:=y.out;clear R Z M;have aM:=J.trans F;obtain⟨ai,O⟩:=nm_ wr;rw[<-O]at F r aM |-;clear O
   go_loopw [7,8] (λG ar wr=>∃(i:Nat) (ys:List Int) (bg:Option Addr) (bo:Nat),i<=xs.length/\ar=i_ i/\G=.slice bg ys.length bo/\Hid (ys=(xs.take i).filter (np rs))/\ys.length<=i/\Zr ai.heap.size wr bg bo ys/\Gr [] ai wr) (λ_ ar _=>xs.length-(intOf ar).toNat)
   case atStart=>exact⟨0,[],none,0,N_ _,by go_num,rfl,h_ rfl,G_ _,Zr.nil,D_ _ _⟩
   case round=>
    obtain⟨i,ys,bg,bo,hi,rfl,rfl,k,s,hz,aO⟩:=hrel
    by_cases aj:i<xs.length
    .obtain⟨b,off,P,bj⟩:=(r.out _ aO).at_ aj;subst P;have bG:=h_ (O_ aj);have I:=b6.out _ (J_ aj);generalize xs[i]=x at*;have j:=o6 x wr I;have a:=v.out _ (aM.trans aO) (tv x)
     have p:Hid (∀b,np rs x=b->(xs.take (i+1)).filter (np rs)=ys++(if b=true then[x] else[])):=h_ (λb hb=>by
      rw[bG.out,Fx,<-k.out]
      cases b with
      |true=>rw[List.filter_cons_of_pos hb];simp
      |false=>rw[List.filter_cons_of_neg (by rw[hb];decide)];simp)
     have aE:=(D_ [] wr).alloc (.cells #[i_ x] 2);have dG:=hz.g_ aE;have b9:=(aO.trans aE).size
     cases hr:qC x with
     |false=>
      have q:decide (1048576<=x)=false:=hr;rw[q]at j;have aW:=h_ j;have aR:=h_ (p.out false (by unfold np;rw[hr];rfl));clear hr q j a
      go_wp2_with (go_at_call 66;refine aW.out.mono ?_;rintro e w2⟨rfl,rfl⟩)
      exact IC
     |true=>
      have q:decide (1048576<=x)=true:=hr;rw[q]at j;have aW:=h_ j
      cases Y:decide (tv x∈rs)with
      |false=>
       rw[Y]at a;have bK:=h_ a;have aR:=h_ (p.out false (by unfold np;rw[hr,Y];rfl));clear hr q j a Y
       go_wp2_with (first|(go_at_call 66;refine aW.out.mono ?_;rintro e w2⟨rfl,rfl⟩)|(go_at_call 18;refine bK.out.mono ?_;rintro e w2⟨rfl,rfl⟩))
       exact IC
      |true=>
       rw[Y]at a;have bK:=h_ a;have aR:=h_ (p.out true (by unfold np;rw[hr,Y];rfl));clear hr q j a Y
       go_wp2_with (first|(go_at_call 66;refine aW.out.mono ?_;rintro e w2⟨rfl,rfl⟩)|(go_at_call 18;refine bK.out.mono ?_;rintro e w2⟨rfl,rfl⟩)|(at_builtin;refine Cf dG (Ls.one wr x) b9 o_ ?_;intro ay an ae bQ m))
       have N:=m.gr [] ai (G_ _) (aO.trans aE);go_roundw
       case rel=>exact⟨i+1,ys++[x],ay,an,by omega,by go_num,by simp,h_ (by rw[aR.out];simp),by simp;omega,bQ,N⟩
       case measure=>simp[intOf];omega
    .go_wp2;rw[aD.out];have e:=k.out;rw[W_ o_]at e
     have aL:oG (hN l) rs=ys:=by rw[e,HA.out];rfl
     rw[aL];exact⟨bg,bo,rfl,hz.ls,iQ hz,aM.trans aO⟩
end Go.Proofs.YtenbhdilndfaeaaGreat
