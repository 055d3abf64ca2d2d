import Derived.Test.YtenbhdilndfaeaaGreatH06
import Derived.Test.YtenbhdilndfaeaaGreatH13
import Derived.Laws.BitsLemmas
import Derived.WalkMore
set_option maxRecDepth 100000
set_option maxHeartbeats 0
set_option linter.all false
namespace Go.Proofs.YtenbhdilndfaeaaGreat
open Go.RowKit Go.Proofs.Tryz
section
variable{w:World}{A:OA}{l:QT}{k:Nat}
def wo(e:TypeId)(w:World)(A:OA)(l:QT):Prop:=Sl w e 2 A l.length<|jw l
def yS(e:TypeId)(w:World)(A:OA)(l:QB):Prop:=Sl w e 2 A l.length<|jo l
def uu(E:Rw->TypeId)(w:World)(l:QT):Prop:=∀r∈l,yS (E r) w r.A r.o.fs/\r.o.fs.length<=1000000000
def wo.hF{e:TypeId}{w':World}(h:wo e w A l)(a:J [] w w'):wo e w' A l:=Sl.hF h a
def yS.hF{e:TypeId}{w':World}{l:QB}(h:yS e w A l)(a:J [] w w'):yS e w' A l:=Sl.hF h a
def uu.hF{E:Rw->TypeId}{w':World}(h:uu E w l)(c:J [] w w'):uu E w' l:=λb a=>⟨(h b a).1.hF c,(h b a).2⟩
def wo.alloc{e:TypeId}(h:wo e w A l)(a:Obj):wo e (w.alloc a) A l:=Sl.alloc h a
def yS.alloc{e:TypeId}{l:QB}(h:yS e w A l)(a:Obj):yS e (w.alloc a) A l:=Sl.alloc h a
def yS.drew{e:TypeId}{l:QB}(h:yS e w A l):yS e w.drew A l:=h
def Os.e(h:Os w A l):wo 56 w A l:=h
def nv.e(h:nv w l):uu (λ_=>38) w l:=h
def yS.at_{e:TypeId}{l:QB}(h:yS e w A l)(hk:k<l.length):
 ∃b off,A=some (Z b off)/\w.cell? (Z b<|off+k*2)=some (.bool l[k].r)/\w.cell? (Z b<|off+k*2+1)=some (Y l[k].n):=by
 exact Li
def wo.at_{e:TypeId}(h:wo e w A l)(hk:k<l.length):
 ∃b off,A=some (Z b off)/\w.cell? (Z b<|off+k*2)=some (Y l[k].o.id)/\w.cell? (Z b<|off+k*2+1)=some (.slice l[k].A l[k].o.fs.length l[k].c):=by
 exact Lj
end
variable{Q:Exit->Act->World->Prop}{a:Act}{aT cr:TypeId}
def x4{P:Program}{md:Region.Mode}{S:World->Prop}{N:Nat}{l:QZ}(i j:Nat){N3 m:Oper}{r1 r2:QZ}{fuel:Nat}{listed:Array Bool}{w:World}(hi:∀e:Act->World->Prop,Shut (∀a w,(i<N->S w)->j5 P md l.toArray Q S N fuel (listed.setIfInBounds i true) a w->e a w)->if Region.wanted N3 (yielded l.toArray a.tmps)=true then Oper.wp P N3 a w e Q else e (a.put N3.dst undef) w)(hj:∀e:Act->World->Prop,Shut (∀a w,(j<N->S w)->j5 P md l.toArray Q S N fuel (listed.setIfInBounds j true) a w->e a w)->if Region.wanted m (yielded l.toArray a.tmps)=true then Oper.wp P m a w e Q else e (a.put m.dst undef) w)(h1:l.drop i=N3::r1:=by rfl)(h2:l.drop j=m::r2:=by rfl)(hr:Region.ready md l.toArray listed=[i,j]:=by kernel_rfl):j5 P md l.toArray Q S N (fuel+1) listed a w:=by
 exact Kj
abbrev zs(l:QS):List Value:=l.map<|Value.int .i64
abbrev Ls(w:World)(A:OA)(l:QS):Prop:=Ns w 2 A l
def Zr(base:Nat)(w:World)(A:OA)(c:Nat)(l:QS):Prop:=w.ownsRow base 2 1 (.slice A l.length c) l.length<|zs l
section
variable{base c:Nat}{w w':World}{A:OA}{l xs news:QS}
def Zr.ls(h:Zr base w A c l):Ls w A l:=Sl.iZ h
def Zr.hF(h:Zr base w A c l)(b:J [] w w'):Zr base w' A c l:=iO h b
def Zr.nil:Zr base w none 0 []:=i4 _ _ _ _
def D6{l:QS}:∀u∈zs l,u.oneCell'=true:=λu b=>by
 obtain⟨d,_,rfl⟩:=GJ.1 b;rfl
def Ls.one(w:World)(x:Int):Sl (w.alloc<|.cells #[Y x] 2) 2 1 (j_ w.heap.size) 1 (zs [x]):=
 ⟨rfl,λ_=>⟨_,0,#[Y x],_,rfl,T_ w _ _,λd e b=>by simpa using b⟩⟩
def Fn{f:TypeId}{ops:Array Oper}{rest:QZ}{o:Oper}{s x:Operand}{B:OA}{az m n0:Nat}(am:Zr base w B az xs)(hr:Sl w f 1 A m<|zs news)(hb:base<=w.heap.size)(hn:xs.length+m<=1000000000)(h:∀(A':OA) (c':Nat) (w':World),Zr base w' A' c' (xs++news)->App base 2 w w'->wpList prog ops Q rest (a.put o.dst<|.slice A' (n0+m) c') w')(ao:o.guard=none:=by rfl)(ho:o.op=.call {callee:=.builtin .append,args:=#[s,x],argTypes:=#[27,27]}:=by rfl)(hs:a.eval s=.slice B n0 az:=by rfl)(hx:a.eval x=.slice A m c:=by rfl)(cY:xs.length=n0:=by first|rfl|(simp;done)):
 wpList prog ops Q (o::rest) a w:=by
 obtain⟨bM,bK,bC,be,bu⟩:=info_parts infoI64;have hm:=by have:=hr.1;simpa using this
 subst cY;refine iQ w ao s x _ ho base 2 bM _ 1 8 underlying27 bK bC be bu rfl I I B xs.length az (zs xs) hs am A m c (zs news) hx hr (D6) X hb λA' c' w' h1 h2=>h A' c' w' ?_ h2;unfold Zr;rw[M_,hm,zs,GN];exact h1
end
def insL(l:QS)(n:Int):List Int:=if n∈l then l else l.takeWhile (λx=>decide (x<n))++[n]++l.dropWhile (λx=>decide (x<n))
def pu(xs:QS)(w:World)(e:Ending)(w':World):Prop:=∃(A:OA) (c:Nat),e=.returned (.slice A xs.length c)/\Ls w' A xs/\xs.length<=c/\J [] w w'
def Ls.drop{w:World}{A:OA}{l:QS}(h:Ls w A l){k:Nat}(r:k<=l.length)(q:Nat)(o:l.length<=q):Sl w 2 1 (if q=k then A else A.map (·.add k)) (l.length-k) (zs<|l.drop k):=by
 refine⟨s_,λp=>?_⟩;obtain⟨d,m,e,f,g,i,j⟩:=h.2 X;subst g;rw[K_ X];refine⟨d,m+k,e,f,by simp[oV],i,λs n b=>?_⟩;rw[Ik];refine j _ n ?_;rw[Hg]at b |-;rw[<-b,IF]
def isRef(v:Vl):Bool:=v.r&&(v.n !=0)
def pQ(fs:QB):List Int:=(fs.filter isRef).map (·.n)
def m7(h:QQ):List Int:=h.flatMap λo=>pQ o.fs
def ie(h:QQ):List Int:=h.map (·.id)
def oA(l:QS):List Int:=l.foldl insL []
structure Asc(ys:QS)(P:Int->Prop):Prop where
 lt:ys.Pairwise (· < ·)
 mem:∀x,x∈ys↔P x
def ri:∀(xs:QS) {l:QS},xs.Nodup->(∀x∈xs,x∈l)->xs.length<=l.length
 |[],_,_,_=>R_ _
 |x::r,l,b,d=>by
  have e:=d x GT;have k:=ri r (l:=l.erase x) (H5.1 b).2 λg f=>by
   have a:g≠x:=λh=>(H5.1 b).1<|h▸f;exact(List.mem_erase_of_ne a).2<|d g<|Z_ _ f
  have i:=List.length_erase_of_mem e;have j:=List.length_pos_of_mem e;simp only[GI];omega
def qA{p:Int->Bool}:∀(l:QS),∀x∈l.takeWhile p,p x=true
 |[],x,b=>by cases b
 |y::l,x,b=>by
  rw[List.takeWhile_cons]at b;split at b;rename_i d;rcases N_.1 b with rfl|b
  exact d;exact qA l x b;cases b
def B5{l:QS}{n:Int}(h:l.Pairwise (· < ·)):Asc (insL l n) (λx=>x∈l\/x=n):=by
 unfold insL;split;rename_i g;exact⟨h,λx=>⟨.inl,λh=>h.elim id λe=>e▸g⟩⟩;rename_i g;have e:=List.takeWhile_append_dropWhile (p:=λx=>decide (x<n)) (l:=l);have k:∀x∈l.takeWhile λx=>decide (x<n),x<n:=λx b=>by
  have:=qA _ x b;exact NW
 have o:∀x∈l.dropWhile λx=>decide (x<n),n<x:=by
  generalize j:l.dropWhile (λx=>decide (x<n))=m at*
  cases m with
  |nil=>intro x b;cases b
  |cons d r=>
   have t:¬d<n:=by
    have f:=List.head?_dropWhile_not (p:=λx=>decide (x<n)) (l:=l);rw[j]at f;simpa using f
   have q:(d::r).Pairwise (· < ·):=by
    rw[<-j];exact h.sublist<|List.dropWhile_sublist _
   have s:n≠d:=λi=>g (by rw[<-e,i];simp);have c:n<d:=X;intro x b;rcases N_.1 b with rfl|b
   exact c;have:=List.rel_of_pairwise_cons q b;omega
 constructor;rw[IP,IP];refine⟨⟨h.sublist<|List.takeWhile_sublist _,List.pairwise_singleton _ _,?_⟩,h.sublist<|List.dropWhile_sublist _,?_⟩
 .intro a d i f;rw[J_.1 f];exact k a d
 intro a d i f;have f:=o i f;rcases X_.1 d with d|d
 have:=k a d;omega;rw[J_.1 d];exact f;intro x;constructor
 .intro b;rcases X_.1 b with b|b
  rcases X_.1 b with b|b
  .exact .inl (by rw[<-e];exact GZ _ b)
  exact .inr<|J_.1 b;exact .inl (by rw[<-e];exact G5 _ b)
 rintro(b|rfl)
 .rw[<-e]at b;rcases X_.1 b with b|b
  exact GZ _<|GZ _ b;exact G5 _ b
 exact GZ _<|G5 _<|J_.2 rfl
def Aw(xs:QS):∀{l:QS},l.Pairwise (· < ·)->Asc (xs.foldl insL l) (λx=>x∈l\/x∈xs):=by
 induction xs with
 |nil=>intro l b;exact⟨b,λx=>by simp⟩
 |cons n xs f=>
  intro l b;have d:=B5 (n:=n) b;have e:=f d.lt;refine⟨e.lt,λx=>?_⟩;rw[H7,e.mem,d.mem,N_];exact or_assoc
def mA(xs:QS):Asc (oA xs) (· ∈xs):=by
 have b:=Aw xs (l:=[]) List.Pairwise.nil;exact⟨b.lt,λd=>(b.mem d).trans s_⟩
def Asc.nodup{ys:QS}{P:Int->Prop}(h:Asc ys P):ys.Nodup:=h.lt.imp λh=>Int.ne_of_lt h
def sJ(A:OA)(c:Nat)(l:QB)(w:World)(h:yS cr w A l)(t:l.length<=1000000000):
 Calls prog 151 #[.slice A l.length c] w λe w'=>∃(A':OA) (c':Nat),
  e=.returned (.slice A' l.length c')/\Vs w' A' l/\J [] w w':=by
 obtain⟨m,k,j,n,o⟩:=info_parts infoVl;have i:=λg=>Lib.run_eql_slice_nil (P:=prog) g 54 38 A l.length c 0 0 underlying54;rcases A with _|q
 .have h0:l.length=0:=Mw;have d:l=[]:=G1 h0;subst d;simp only[Hb]at i |-
  go_enter func151,ntmps151;go_wp2;go_ret;exact⟨none,0,rfl,HB _ _ _ _,G_ _ _⟩
 generalize d:l.length=s at*
 go_enter func151,ntmps151;go_wp2_with (at_builtin;refine iQ _ rfl (.tmp 5) (.tmp 6) 54 rfl w.heap.size 38 m _ 2 16 underlying54 k j n o rfl I I _ 0 0 [] rfl (vm _ _ _ _ _ s_ s_) (some q) s c (jo l) rfl (by subst d;exact Sl.alloc h _) (nM l) X s_ ?_;intro f p u a r;simp only[U_,G0]at a);go_ret;refine⟨f,p,oJ X,?_,r.gr [] w X<|(G_ _ w).alloc _⟩;subst d;exact Sl.iZ a
def yJ(b:Ob)(A:OA)(c:Nat){w:World}(h:yS cr w A b.fs)(m:b.fs.length<=1000000000):
 Calls prog 103 #[.agg #[Y b.id,.slice A b.fs.length c]] w λe w'=>∃(A':OA) (c':Nat),
  e=.returned (.agg #[Y b.id,.slice A' b.fs.length c'])/\Vs w' A' b.fs/\J [] w w':=by
 obtain⟨id,f⟩:=b;simp only at h m |-;obtain⟨k,-,-⟩:=qU w 56 #[Y id,.slice A f.length c] 56 #[Y 0,n_];obtain⟨y,z⟩:=k.iN;obtain⟨-,n,-⟩:=qU w 56 #[Y id,.slice A f.length c] 56 #[Y 0,n_]
 go_enter func103,ntmps103;go_wp2_with fail
 go_region_with (go_at_call 151;refine(sJ A c f _ ((h.alloc _).alloc _).drew m).mono ?_;rintro e q⟨g,i,rfl,p,j⟩;have d:=n.drew.gr j s_;obtain⟨x,v⟩:=d.iN;have s:=d.hG 0;have r:=d.hG 1;obtain⟨t,u⟩:=(k.drew.gr j s_).iN)
 all_goals
  go_wp2;(try simp only[Exit.inBlock,Exit.then]);have o:=(d.hW 0<|Y id).hW 1<|.slice g f.length i;refine rr_ #[Y id,.slice g f.length i] o underlying56 ⟨g,i,rfl,?_,?_⟩;exact Sl.iy p d I<|((G_ [w.heap.size+1] q).setCell (.inl s_) _).setCell (.inl s_) _;exact(((((G_ [] w).alloc _).alloc _).drew.trans j).setCell (.inr s_) _).setCell (.inr s_) _
def sI(A:OA)(c:Nat)(l:QT)(id:Int){w:World}(h:wo aT w A l)(z:l.length<=1000000000):
 Calls prog 102 #[.agg #[.slice A l.length c],Y id] w λe w'=>e=.returned (Y<|jx (hY l) id)/\J [] w w':=by
 have p:=O (show jx (hY l) id=iK (λj:Rw=>j.o.id==id) l 0 by unfold jx hY;exact qP _ _ _ _ λ_ _=>rfl);generalize x:l.length=d at*;have n:Bk (w.alloc<|.cells #[.slice A d c] 35) w.heap.size 35 #[.slice A d c]:=T_ w _ _;have v:(w.alloc<|.cells #[.slice A d c] 35).cell? (Z w.heap.size 0)=some (.slice A d c):=n.f_ 0;go_enter func102,ntmps102;go_wp2
 go_step3
 go_wp2
 go_step3
 go_wp2;go_loopw [5,11] (λq i w'=>∃b:Nat,b<=d/\q=Y (-1)/\i=Y b/\jx (hY l) id=iK (λj:Rw=>j.o.id==id) (l.drop b) b/\J [] w w') (λ_ i _=>d-(intOf i).toNat)
 case atStart=>exact⟨0,R_ _,rfl,rfl,p.out,(G_ _ _).alloc _⟩
 obtain⟨b,y,rfl,rfl,k,f⟩:=hrel;have HI:=O k;clear k;by_cases r:b<d
 .have m:b<l.length:=X;obtain⟨s,B,rfl,u,t⟩:=(h.hF f).at_ m;by_cases g:l[b].o.id=id
  .have a:(l[b].o.id==id)=true:=by simp[g]
   clear g;go_wp2;try rw[Exit.noGoto_ret]
   go_ret;exact⟨kD (by rw[HI.out,l4 _ _ _ _ X a]),f.alloc _⟩
  have a:(l[b].o.id==id)=false:=by simp[g]
  go_wp2;go_roundw;exact⟨b+1,X,rfl,gn,by rw[HI.out,kO _ _ _ _ X a],f.alloc _⟩;exact mz
 go_wp2;try rw[Exit.noGoto_ret]
 go_ret;exact⟨kD (by rw[HI.out,mP _ _ _ _ X]),f⟩
def Ao{E:Rw->TypeId}(A:OA)(c:Nat)(l:QT)(id:Int)(w:World)(h:wo aT w A l)(W:uu E w l)(D:l.length<=1000000000):
 Calls prog 60 #[.agg #[.slice A l.length c],Y id] w λe w'=>
  (jy (hY l) id=none/\e=.returned (.tuple #[.agg #[Y 0,n_],.bool false])/\J [] w w')\/
  ∃(o:Ob) (A':OA) (c':Nat),jy (hY l) id=some o/\e=.returned (.tuple #[.agg #[Y o.id,.slice A' o.fs.length c'],.bool true])/\Vs w' A' o.fs/\J [] w w':=by
 have L:Bk (w.alloc<|.cells #[.slice A l.length c] 35) w.heap.size 35 #[.slice A l.length c]:=T_ w _ _;have a:=L.alloc<|.cells #[Y 0,n_] 56;obtain⟨-,y,-⟩:=qU w 35 #[.slice A l.length c] 56 #[Y 0,n_];have h0:=a.f_ 0;rcases nc (hY l) id with⟨r,g⟩|⟨f,V,r,g⟩
 .go_enter func60,ntmps60;go_wp2_with (go_at_call 102;refine(sI A c l id ((h.alloc _).alloc _) D).mono ?_;rintro e w1⟨rfl,d⟩;have b:=y.gr d s_;have q:=a.gr d s_;have X:=q.f_ 0;obtain⟨S,T⟩:=b.iN;have K:=b.hG 0;have H:=b.hG 1);have p:=(b.hW 0<|Y 0).hW 1<|n_;refine me #[Y 0,n_] (.bool false) p underlying56<|.inl ⟨g,rfl,?_⟩;exact(((((G_ [] w).alloc _).alloc _).trans d).setCell (.inr s_) _).setCell (.inr s_) _
 have u:f<l.length:=by simpa[hY]using V
 obtain⟨v,G,rfl,z,x⟩:=h.at_ u;obtain⟨n,s⟩:=W l[f]<|P_ u;have F:(hY l)[f]=l[f].o:=by simp[hY]
 rw[F]at g;clear F;obtain⟨⟨i,j⟩,P⟩:∃o,l[f].o=o:=⟨_,rfl⟩;rw[P]at n s g z x;generalize l[f].A=N at*;generalize l[f].c=U at*;have R:=O r;clear r;have B:=jJ (jJ z<|.cells #[.slice (some<|Z v G) l.length c] 35)<|.cells #[Y 0,n_] 56;have C:=jJ (jJ x<|.cells #[.slice (some<|Z v G) l.length c] 35)<|.cells #[Y 0,n_] 56;simp only at n s B C;go_enter func60,ntmps60;go_wp2_with (first|(go_at_call 102;refine(sI _ c l id ((h.alloc _).alloc _) D).mono ?_;rintro e w1⟨rfl,d⟩;rw[R.out];have q:=a.gr d s_;have X:=q.f_ 0;have bC:=d.f_ B s_;have be:=d.f_ C s_)|(go_at_call 103;refine(yJ ⟨i,j⟩ N U (((n.alloc _).alloc _).hF d) s).mono ?_;rintro e w2⟨m,k,rfl,M,t⟩;have b:=y.gr (d.trans t) s_;obtain⟨S,T⟩:=b.iN;have K:=b.hG 0;have H:=b.hG 1));have p:=(b.hW 0<|Y i).hW 1<|.slice m j.length k;refine me #[Y i,.slice m j.length k] (.bool true) p underlying56<|.inr ⟨⟨i,j⟩,m,k,g,rfl,?_,?_⟩;exact Sl.iy M b I<|((G_ [w.heap.size+1] w2).setCell (.inl s_) _).setCell (.inl s_) _;exact((((((G_ [] w).alloc _).alloc _).trans d).trans t).setCell (.inr s_) _).setCell (.inr s_) _
