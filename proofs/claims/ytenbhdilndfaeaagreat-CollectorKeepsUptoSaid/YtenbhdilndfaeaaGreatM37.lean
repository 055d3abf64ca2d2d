import Derived.Test.YtenbhdilndfaeaaGreatM31
import Derived.Test.YtenbhdilndfaeaaGreatM32
import Derived.Test.YtenbhdilndfaeaaGreatM35
import Derived.Test.YtenbhdilndfaeaaGreatM36
import Derived.Laws.CopyRow
import Derived.Laws.EntriesVeiled
import Derived.Lib.SliceRun
import Derived.Sort.OwnSortedInts
set_option maxRecDepth 100000
set_option maxHeartbeats 0
set_option linter.all false
namespace Go.Proofs.YtenbhdilndfaeaaGreat
open Go.RowKit Go.Proofs.Tryz
variable{base g j s:Nat}{ops:Array Oper}{a:Ob->Bool}{Q:Exit->Act->World->Prop}{x:Operand}{aQ:TypeId}{α:Type}{rb:Bool}{view:QQ}{d:QR}
def KB{G:Prop} (h:G:=by
 refine hM k_ ?_ _;go_wp2;go_meet;exact⟨x,aY,c3,rfl,by simpa using b.hU 0 (.slice aY a.length c3),Sl.iq k b I L,F.hI L (λy hy=>.inr (by rw[J_]at hy;omega))⟩):G:=h
section
open Go.RowKit Go.Sort Go.Shelf Go.Lib
def wH(d:Array Int)(r:∀i j,i<=j->j<d.size->d[i]! <=d[j]!):∀m,m<=d.size->Asc (compactUpTo d m) (λx=>∃j,j<m/\d[j]! =x)
 |0,_=>⟨by simp[compactUpTo],λx=>by simp[compactUpTo]⟩
 |m+1,B=>by
  have b:=wH d r m X;rw[compactUpTo_succ];cases q:keeps d m with
  |false=>
   have k:m≠0/\d[m]! =d[m-1]! :=by
    unfold keeps at q;have:=IH q;exact⟨λe=>this (.inl e),Classical.byContradiction λe=>this (.inr e)⟩
   refine⟨by simpa using b.lt,λx=>?_⟩;simp only[Bool.false_eq_true,if_false,Hv,b.mem];constructor;rintro⟨j,c,e⟩;exact⟨j,X,e⟩;rintro⟨j,c,e⟩;by_cases h:j=m;subst h;exact⟨j-1,X,by rw[<-k.2];exact e⟩;exact⟨j,X,e⟩
  |true=>
   have k:m=0∨d[m]! ≠d[m-1]! :=HW q;refine⟨?_,λx=>?_⟩;rw[U_ rfl,IA];refine⟨b.lt,H,λx t C u=>?_⟩;rw[J_.1 u];obtain⟨j,c,rfl⟩:=(b.mem x).1 t;have v:=r j (m-1) X X;have y:=r (m-1) m X X;have z:=k.resolve_left X;omega;rw[U_ rfl,W_,b.mem,J_];constructor
   .rintro(⟨j,c,e⟩|e)
    .exact⟨j,X,e⟩
    exact⟨m,X,e.symm⟩
   rintro⟨j,c,e⟩;by_cases h:j=m;subst h;exact .inr e.symm;exact .inl ⟨j,X,e⟩
def zJ(l:QR):compact (l.mergeSort λx y=>decide (x<=y))=kH l:=by
 have r:=List.mergeSort_perm l (λx y=>decide (x<=y));have t:=List.pairwise_mergeSort (le:=λx y:Int=>decide (x<=y)) (λa m v z B=>by simp at*;omega) (λa m=>by simp;omega) l;generalize l.mergeSort (λx y=>decide (x<=y))=s at*
 have h:=wH s.toArray (λc j u b=>by
  have b:j<s.length:=zu b;rcases Ga c j with h|h
  have:=List.pairwise_iff_getElem.1 t c j X b h;have k:s.toArray[c]! =s[c]:=by simp[show c<s.length by omega]
  have i:s.toArray[j]! =s[j]:=by simp[b]
  rw[k,i];exact No;have:c=j:=X;subst this;exact GH _) s.length H
 unfold compact;refine Asc.eq h ?_;refine⟨(kG l).lt,λx=>?_⟩;rw[(kG l).mem,<-r.mem_iff,IB];constructor;rintro⟨j,b,e⟩;exact⟨j,b,by simp[b,e]⟩;rintro⟨j,b,e⟩;exact⟨j,b,by simpa[b]using e⟩
def En(w:World):grow w #[]=w:=by unfold grow;simp
def rY{l:QR}{w:World}(h:GA base w g l)(hn:l.length<=1000000000)(S:base<=w.heap.size):
 Calls prog 70 #[q_ g] w λe w'=>∃(A:OA) (c:Nat),e=.returned (.slice A (kH l).length c)/\Ls w' A (kH l)/\(kH l).length<=c/\Fx base [119,2] w w':=by
 obtain⟨hbg,ad,u,r,F⟩:=h;refine h6 λQ I=>?_;have ae:=r.f_ 0;rcases F.2 with⟨B,R⟩|⟨p,lR,cur,E,o,m,hcl,aK,G,L⟩
 .have k:l=[]:=Gh R;subst k;injection B with B _ i;subst B;subst i;have v:=O (AnyM.slices_Sort_int_none C5 none 0 w);have d:=O (AnyG.slices_Compact_int_empty Dd none 0 w);clear F r;go_enter func70,ntmps70;go_wp2_with (first
   |(go_at_call 107;refine v.out.mono ?_;rintro e b⟨rfl,rfl⟩)
   |(go_at_call 108;refine d.out.mono ?_;rintro e b⟨rfl,rfl⟩))
  rw[I.out];exact⟨none,0,rfl,GU _ _ _ _,H_ _,.jD (F_ _ _)⟩
 injection E with E hv1 Nt;subst E;subst Nt;have bI:l.length<=9223372036854775807:=X;have t:Holds (Value.int .i64) w p 0 l.toArray:=holds_of_blockI m (zu L);have bZ:=kX m;have v:=O (AnyM.slices_Sort_int C5 p 0 u l w t bZ X);have bT:g≠p:=by
  rintro rfl;unfold Bk at r;rw[r]at m;cases m
 have bD:=O (show ∀(n:Nat) (os:Array Obj),J [p] w (grow (putRow (Value.int .i64) (Sort.ahead w n) p 0 (l.mergeSort λx i=>decide (x<=i)).toArray) os)/\
  (grow (putRow (Value.int .i64) (Sort.ahead w n) p 0 (l.mergeSort λx i=>decide (x<=i)).toArray) os).ownsRow base 2 1 (.slice (j_ p) l.length u) l.length ((l.mergeSort λx i=>decide (x<=i)).map (Value.int .i64)) from λn os=>
  ⟨(F_ [p] w).grown (grownBy_sortedI _) (λaf k=>by injection k with k;exact .inl (by simp[k])),ownsRow_sortedI (by rw[List.length_mergeSort]) o m hcl aK G⟩)
 have z:(l.mergeSort λx i=>decide (x<=i)).length=l.length:=List.length_mergeSort l;have M:=O (zJ l);have s:=O (show ∀w',J [p] w w'->Fx base [119,2] w w' from λw' hg=>Fx.one hg m o H);clear L G m t F;generalize (l.mergeSort λx i=>decide (x<=i))=ss at*
 go_enter func70,ntmps70;go_wp2_with fail;go_at_call 107;refine v.out.mono ?_;rintro e b⟨rfl,n,os,N⟩;obtain⟨C,P⟩:=bD.out n os;rw[<-N]at C P;clear N;have ag:=r.gr C (zu bT);have ah:=ag.f_ 0;obtain⟨ai,aj,aS,a,U,f,ak,al,am,Y⟩:=P.2.resolve_left (λq=>by cases q.1);injection a with a _ Z;injection a with a;injection a with a;subst a;subst Z;have t:Holds (Value.int .i64) b p 0 ss.toArray:=holds_of_blockI f (by rw[z];simpa using Y);have d:=AnyG.slices_Compact_int Dd p 0 u ss b t X X;rw[z]at d;have d:=O d;go_wp2_with fail;go_at_call 108;refine d.out.mono ?_;rintro e V⟨rfl,q,K⟩;have cj:(compact ss).length<=l.length:=by
  rw[<-z];have:=(GC (keeps ss.toArray) (List.range ss.length));unfold compact compactUpTo;simp at this |-;exact this
 have y:V=grow (putRow (Value.int .i64) (Sort.ahead b q) p 0 (compact ss++List.replicate (l.length-(compact ss).length) 0).toArray) #[]:=by rw[En,K]
 have Np:J [p] b V:=by
  rw[y];exact(F_ [p] b).grown (grownBy_sortedI _) (λaf k=>by injection k with k;exact .inl (by simp[k]))
 have T:=ownsRow_sortedI (w:=b) (n:=q) (os:=#[]) (base:=base) (ss:=ss) (ts:=compact ss++List.replicate (l.length-(compact ss).length) 0) p_ U f X al am;rw[<-y]at T;clear K y;go_wp2;rw[I.out,<-M.out];refine⟨j_ p,u,rfl,?_,X,(s.out b C).trans (Fx.one Np f U H)⟩;have W:=Sl.iP T;refine⟨H,λR=>?_⟩;obtain⟨an,off,cs,fz,hA,S,hc⟩:=W.2 X;refine⟨an,off,cs,fz,hA,S,λj ap D=>hc j ap ?_⟩;rw[Gd,GT (by
  rcases Ga j ((compact ss).map (Value.int .i64)).length with h|h
  exact h;rw[Gk h]at D;cases D)]
 exact D
end
section
variable{w w' a:World}{e:TypeId}{A:OA}
def De{l:QX}(h:Sl w e 4 A l.length (l.flatMap Cl.E)){k:Nat}(hk:k<l.length):∃b off,A=some (Z b off)/\w.cell? (Z b (off+k*4))=some (Y l[k].id)/\w.cell? (Z b (off+k*4+1))=some (Y l[k].f)/\w.cell? (Z b (off+k*4+2))=some (.bool l[k].v.r)/\w.cell? (Z b (off+k*4+3))=some (Y l[k].v.n):=LH
def Dc{l:QD}(h:Sl w e 5 A l.length (l.flatMap Dl.E)){k:Nat}(hk:k<l.length):∃b off,A=some (Z b off)/\w.cell? (Z b (off+k*5))=some (Y l[k].id)/\w.cell? (Z b (off+k*5+1))=some (Y l[k].f)/\w.cell? (Z b (off+k*5+2))=some (Y l[k].op)/\w.cell? (Z b (off+k*5+3))=some (.bool l[k].v.r)/\w.cell? (Z b (off+k*5+4))=some (Y l[k].v.n):=Lr
def Ao{l:QB}(h:Sl w e 48 A l.length (l.flatMap λt=>t.g_.toList)){k:Nat}(q:k<l.length):∃b c,A=some (Z b c)/\∀j,j<48->w.cell? (Z b (c+k*48+j))=(l[k]).g_[j]?:=by
 obtain⟨b,c,hA,hc⟩:=Sl.row (E:=λt:Tk=>t.g_.toList) (λ_=>rfl) h q;refine⟨b,c,hA,λj m=>?_⟩;have i:j<(l[k]).g_.size:=by rw[Tk.size];exact m
 rw[Gb i,HE];exact hc j _ (by simp[i])
end
structure rC(w:World)(t:Tk):Prop where
 gs:∃e,Sl w e 4 t.gs.A t.gs.l.length (t.gs.l.flatMap Cl.E)
 rs:∃e,Sl w e 4 t.rs.A t.rs.l.length (t.rs.l.flatMap Cl.E)
 ws:∃e,Sl w e 4 t.ws.A t.ws.l.length (t.ws.l.flatMap Cl.E)
 ds:∃e,Sl w e 5 t.ds.A t.ds.l.length (t.ds.l.flatMap Dl.E)
 nw:∃e,sC e w t.nw.A t.nw.l
 nr:∃E,q0 E w t.nw.l
def lm.e{w:World}{t:Tk}(h:lm w t):rC w t:=⟨⟨_,h.gs⟩,⟨_,h.rs⟩,⟨_,h.ws⟩,⟨_,h.ds⟩,⟨_,h.nw.e⟩,⟨_,h.nr.e⟩⟩
def FC{rest:QZ}{o:Oper}{a:Act}{w:World}{b off:Nat}{t:Tk}(hc:∀j,j<48->w.cell? (Z b (off+j))=t.g_[j]?)(h:wpList prog ops Q rest (a.put o.dst (.agg t.g_)) w)(Nw:o.guard=none:=by rfl)(ho:o.op=.load 53 x:=by rfl)(hx:a.eval x=.pointer (some (Z b off)):=by rfl):wpList prog ops Q (o::rest) a w:=
 wpList_plain Nw λ_ Nu=>wp_load_mid 53 x ho b off hx t.g_.toList _ (λj v hj=>by
  have ag:j<48:=by
   rcases Ga j 48 with h|h
   exact h;rw[Gk (by show 48<=j;exact h)]at hj;cases hj
  rw[hc j ag];simpa using hj) underlying53 rfl k_ (Nu _ _ h)
def xQ{e:TypeId}{c:Nat}{l R L:QR}{cs:QX}{A:OA}{a w:World}(h:GA base w g l)(ha:a.heap.size<=base)(M:J [] a w)(hc:Sl a e 4 A cs.length (cs.flatMap Cl.E))(hb:base<=w.heap.size)(hL:l++(j3 cs++R)=L)(hn:L.length<=1000000000)(hcl:cs.length<=1000000000):
 Calls prog 68 #[q_ g,.slice A cs.length c] w λe w'=>e=.returned (.tuple #[])/\(∃I,GA base w' g I/\I++R=L)/\Fx base [119,2] w w':=by
 refine h6 λQ U=>?_;go_enter func68,ntmps68;go_wp2;have bg:=O hL;go_loopw [8] (λz wr=>∃(b:Nat) (k:QR),b<=cs.length/\z=Y b/\GA base wr g k/\Hid (k++(j3 (cs.drop b)++R)=L)/\Fx base [119,2] w wr) (λz _=>cs.length-(intOf z).toNat)
 case atStart=>exact⟨0,l,L_ _,gn,h,O bg.out,.jD (F_ _ _)⟩
 obtain⟨b,k,hk,rfl,hA,E,t⟩:=hrel;by_cases C:b<cs.length
 .obtain⟨ad,off,bo,bj,bn,W,Z⟩:=De hc C;subst bo;have m:=t.gr a ha M;have ae:=m.f_ bj H;have ah:=m.f_ bn H;have ay:=m.f_ W H;have aS:=m.f_ Z H;have B:=O (show((k++[cs[b].id])++lr cs[b].v)++(j3 (cs.drop (b+1))++R)=L by
   have e:=E.out;rw[R_ C]at e;rw[<-e];simp only[j3,Gi,GE,Hx,Gf])
  have iF:=Z_ List.length B.out;simp only[I_,Y_,Gz]at iF;generalize cs[b]=x at*;have r:=P_ wr 116 #[Y x.id,Y x.f,.bool x.v.r,Y x.v.n];have u:=(F_ [] wr).alloc (.cells #[Y x.id,Y x.f,.bool x.v.r,Y x.v.n] 116);obtain⟨i,F,T,P⟩:∃i F,wr.alloc (.cells #[Y x.id,Y x.f,.bool x.v.r,Y x.v.n] 116)=i/\wr.heap.size=F:=⟨_,_,rfl,rfl⟩;rw[T]at r u;rw[P]at r;have z0:=r.f_ 0;have K:=hA.hF u;have d:base<=i.heap.size:=by have:=t.size;have:=u.size;omega
  have y:=(F_ [] i).alloc (.cells #[Y x.id] 2);have S:=O (pH (c:=1) (K.hF y) (Ls.one i x.id) p_ (by simp only[Y_,Gz];omega));have ai:=r.hF y;have j:=(t.trans (.jD u)).trans (.jD y);go_wp2_with fail;go_at_call 67;refine S.out.mono ?_;rintro e w2⟨rfl,aj,D⟩;have G:=D.bk ai;have aZ:=G.f_ 2;have z3:=G.f_ 3;have f:=j.trans D;have N:=O (tG (v:=x.v) aj (ov f.size) p_);go_wp2_with fail;go_at_call 69;refine N.out.mono ?_;rintro e af⟨rfl,bw,V⟩;go_wp2;go_roundw;exact⟨b+1,_,X,gn,bw,B,f.trans V⟩;exact mz
 go_wp2;refine en_ ?_;rw[U.out];have e:=E.out;rw[GG X]at e;exact⟨rfl,⟨k,hA,by simpa[j3]using e⟩,t⟩
section
open Go.RowKit Go.Maps
def FM(w:World)(M n:Nat)(f:Int->Bool):Prop:=
 ∃D:DataW Unit,w.ownsMap prog 2 (plainElem prog 4) M n D/\IsMap D/\(∀id:Int,(Lit.int .i64 id).wf=true->D.atKey (Lit.int .i64 id) (.lit (.bool false))=.lit (.bool (f id)))/\qZ D (λx=>f x=true)
section
variable{w w':World}{M n:Nat}{f:Int->Bool}
def FM.bm(h:FM w M n f):Bm w M n f:=by
 obtain⟨b,c,i,k,_⟩:=h;exact⟨b,c,i,k⟩
def FM.iy(h:FM w M n f)(hb:w'.heap[M]?=w.heap[M]?):FM w' M n f:=Mp
def FM.hF(h:FM w M n f)(b:J [] w w'):FM w' M n f:=h.iy (b.block M h.bm.lt H)
def FM.not(h:FM w M n f)(cs:Array Value)(t:TypeId)(b:Nat × Nat):w.heap[M]?≠some (.cells cs t b):=by
 obtain⟨k,⟨m,d,c,_⟩,_⟩:=h;rw[c];intro i;cases i
def FM.made(w:World):FM (w.alloc (.map #[] 0)) w.heap.size 0 (λ_=>false):=
 ⟨.map [],World.ownsMap_made w _ _ _,⟨[],rfl⟩,λid _=>rfl,qZ.empty.congr λx=>H⟩
def FM.update(h:FM w M n f)(v:n<maxLen){id:Int}(m:(Lit.int .i64 id).wf=true):
 ∃w',(Instr.mapUpdate 105 (.map (some M)) (Y id) (.bool true)).run prog w=.ok () w'/\FM w' M (n+1) (λi=>if i=id then true else f i)/\w.grownBy w' (some M):=by
 obtain⟨y,u,b,h3,t⟩:=h;obtain⟨w',c,q,r⟩:=u.update (int_keyed underlying2) underlying105 v (keyOf_int_mk underlying2 m) (plainElem_bool underlying4 true);refine⟨w',c,⟨_,q,b.put _ _,λi hi=>?_,(t.put id _).congr λx=>?_⟩,r⟩;by_cases he:i=id
 .subst he;show _=DataW.lit (.bool (if i=i then true else f i));rw[U_ rfl];exact atKey_put_same (k:=Lit.int .i64 i) b trivial _ _
 show _=DataW.lit (.bool (if i=id then true else f i));exact Mg;by_cases he:x=id<;>simp[he]
def FM.bk(h:FM w M n f)(i:J [M] w w'){t:TypeId}{cs:Array Value}(b:Bk w g t cs):Bk w' g t cs:=
 b.gr i (λc=>by rw[J_]at c;subst c;exact h.not _ _ _ b)
def FM.sl(h:FM w M n f)(t:J [M] w w'){e:TypeId}{m:Nat}{A:OA}{xs:QW}(i:Sl w e s A m xs):Sl w' e s A m xs:=
 ⟨i.1,λu=>by
   obtain⟨c,v,q,r,hA,b,hc⟩:=i.2 u;exact⟨c,v,q,r,hA,(t.block c (kX b) (λk=>by rw[J_]at k;subst k;exact h.not _ _ _ b)).trans b,hc⟩⟩
end
def xD{fs:QA}(b:j<fs.length):rM (fs.take (j+1))=rM (fs.take j)++(if fs[j].r=true then[fs[j].n] else[]):=by
 rw[Q_ b];unfold rM;rw[HH,Gd];split<;>simp_all
structure VM(bh bf bv M:Nat)(hA:OA)(hc:Nat)(l:QT)(w:World):Prop where
 b1:Bk w bh 35 #[.slice hA l.length hc]
 b2:Bk w bf 105 #[.map (some M)]
 b3:Bk w bv 129 #[.func (.func 74) #[] #[q_ bh,q_ bf,q_ bv]]
 os:∃e,sC e w hA l
 k8:∃E,q0 E w l
section
variable{bh bf bv M hc nn:Nat}{hA:OA}{l:QT}{f:Int->Bool}{w w':World}
def VM.hF(v:VM bh bf bv M hA hc l w)(b:J [] w w'):VM bh bf bv M hA hc l w':=
 ⟨v.b1.hF b,v.b2.hF b,v.b3.hF b,let⟨e,h⟩:=v.os;⟨e,h.hF b⟩,let⟨e,h⟩:=v.k8;⟨e,h.hF b⟩⟩
def VM.gr(v:VM bh bf bv M hA hc l w)(h:FM w M nn f)(b:J [M] w w'):VM bh bf bv M hA hc l w':=
 ⟨h.bk b v.b1,h.bk b v.b2,h.bk b v.b3,let⟨e,c⟩:=v.os;⟨e,h.sl b c⟩,let⟨e,c⟩:=v.k8;⟨e,λk i=>⟨h.sl b (c k i).1,(c k i).2⟩⟩⟩
def BV(M:Nat)(h:QQ)(id:Int)(f:Int->Bool)(K:Nat)(w:World)(e:Ending)(w':World):Prop:=
 ∃(nn:Nat) (s:Int->Bool),e=.returned (.tuple #[])/\FM w' M nn s/\q5 h [id] (f · =true) (s · =true)/\nn+t7 h (s · =true)<=K/\J [M] w w'
def visit_any(hn:l.length<=1000000000)(h0:(0:Int)∉iQ (hX l))(aD:∀x∈iQ (hX l),mH x){K:Nat}(Nu:K<=1000000000):∀(n:Nat) (f:Int->Bool) (nn:Nat) (id:Int) (w:World),t7 (hX l) (f · =true)<n->VM bh bf bv M hA hc l w->FM w M nn f->nn+t7 (hX l) (f · =true)<=K->
 Calls prog 74 #[Y id,q_ bh,q_ bf,q_ bv] w (BV M (hX l) id f K w)
 |0,_,_,_,_,N,_,_,_=>Gc N (Nat.not_lt_zero _)
 |n+1,f,nn,id,w,N,C,hf,t=>by
  refine h6 λQ P=>?_;have ae:=O (visit_any hn h0 aD Nu n);have ai:=C.b1.f_ 0;obtain⟨_,aj⟩:=C.os;obtain⟨_,cx⟩:=C.k8;have I:=O (zz hA hc l id w aj cx hn);have Np:=O (show ∀o,ke (hX l) id=some o->o.fs.length<=1000000000 from λo ho=>by
   obtain⟨al,hr,rfl⟩:=Ge.1 (oE ho);exact(cx al hr).2)
  have av:=O C;have ap:=O hf;have q:=O t;have ad:=O N;go_enter func74,ntmps74;go_wp2_with fail;go_at_call 60;refine I.out.mono ?_;rintro e w1(⟨k,rfl,hg1⟩|⟨o,A1,c1,k,rfl,hv1,hg1⟩)
  .have HG:=O (show id∉iQ (hX l) from λU=>by obtain⟨o,e⟩:=vp.1 U;rw[k]at e;cases e);go_wp2;refine rn_ ?_;rw[P.out];have b:=hg1.alloc (.cells #[Y 0,n_] 56);exact⟨nn,f,rfl,ap.out.hF b,q5.skip λc=>Gc c HG.out,q.out,(F_ [M] w).hI b H⟩
  have hid:id∈iQ (hX l):=vp.2 ⟨o,k⟩;have A:=aD id hid;have am:=Np.out o k;have HG:=O k;have an:=O hid;obtain⟨W,g,aV,bw,i,hB⟩:=box1 w1 56 #[Y o.id,.slice A1 o.fs.length c1];have c:=ap.out.hF (hg1.trans i);have bH:=av.out.hF (hg1.trans i);have b5:=c.bm.lookup A;have z0:=bH.b2.f_ 0;cases B:f id with
  |true=>
   rw[B]at b5;have b:=O B;go_wp2;refine rn_ ?_;rw[P.out];exact⟨nn,f,rfl,c,q5.skip λ_=>b.out,q.out,(F_ [M] w).hI (hg1.trans i) H⟩
  |false=>
   rw[B]at b5;have az:∀x,(if x=id then true else f x)=true↔(f x=true∨x=id):=λx=>by by_cases e:x=id<;>simp[e]
   have bD:=O az;have hl1:t7 (hX l) (λx=>f x=true∨x=id)<t7 (hX l) (f · =true):=Dw an.out (by rw[B];decide);have aA:=O hl1;obtain⟨D,aC,ak,b⟩:=c.update (by have:=q.out;unfold maxLen;omega) A;have b:J [M] W D:=(F_ [M] W).grown b (λaE T=>by injection T with T;exact .inl (by simp[T]));have aF:=bH.gr c b;have y:Vs D A1 o.fs:=c.sl b (hv1.hF i);have S:=c.bk b hB;have ah:D.cell? (Z g 1)=some (.slice A1 o.fs.length c1):=S.f_ 1;have cR:J [M] w D:=((F_ [M] w).hI (hg1.trans i) H).trans b;have aG:=O (show nn+1+t7 (hX l) (λx=>f x=true∨x=id)<=K by have:=q.out;omega);have aI:=O (show ∀s:Int->Bool,(∀x,(f x=true∨x=id)->s x=true)->t7 (hX l) (s · =true)<n from λs aJ=>by
    have:=Dx (h:=hX l) aJ;have:=ad.out;omega)
   go_wp2_with fail;go_loopw [27] (λR wr=>∃(j a:Nat) (s:Int->Bool),j<=o.fs.length/\R=Y j/\FM wr M a s/\Hid (a+t7 (hX l) (s · =true)<=K)/\Hid (q5 (hX l) (rM (o.fs.take j)) (λx=>f x=true∨x=id) (s · =true))/\VM bh bf bv M hA hc l wr/\Vs wr A1 o.fs/\J [M] w wr) (λR _=>o.fs.length-(intOf R).toNat)
   case atStart=>exact⟨0,nn+1,_,L_ _,by go_num,ak,O (by have:=aG.out;have e:t7 (hX l) (λx=>(if x=id then true else f x)=true)=t7 (hX l) (λx=>f x=true∨x=id):=Z_ _ (funext λx=>propext (bD.out x));omega),O ((q5.nil _ _).congr (λ_=>Iff.rfl) λx=>(bD.out x).symm),aF,y,cR⟩
   obtain⟨j,a,s,hj,rfl,au,L,z,aN,y,V⟩:=hrel;by_cases bC:j<o.fs.length
   .obtain⟨aM,off,bo,ck,aY⟩:=y.at_ bC;subst bo;have bl:=O (xD bC);generalize o.fs[j]=m at*;have z3:=aN.b3.f_ 0;obtain⟨ar,d,ce,af,p,S⟩:=box1 wr 38 #[.bool m.r,Y m.n];obtain⟨bz,br⟩:=S.iA;have v:=au.hF p;have u:=aN.hF p;have aR:=y.hF p;have bj:=V.trans ((F_ [M] wr).hI p H);have z4:=u.b3.f_ 0;cases r:m.r with
    |false=>
     rw[r]at bz ck ce;have F:=O (show q5 (hX l) (rM (o.fs.take (j+1))) (λx=>f x=true∨x=id) (s · =true) by rw[bl.out,r];simpa using z.out);go_wp2;go_roundw;exact⟨j+1,a,s,by omega,by go_num,v,L,F,u,aR,bj⟩;simp[intOf];omega
    |true=>
     rw[r]at bz ck ce;have I:=O (ae.out s a m.n ar (aI.out s z.out.up) u v L.out);have F:=O (show ∀G,q5 (hX l) [m.n] (s · =true) G->q5 (hX l) (rM (o.fs.take (j+1))) (λx=>f x=true∨x=id) G from λG U=>by
      rw[bl.out,r,U_ rfl];exact z.out.app U)
     go_wp2_with fail;go_at_call 74;refine I.out.mono ?_;unfold BV;rintro e Nq⟨aw,f5,rfl,aS,aO,Nt,E⟩;have aP:=u.gr v E;have aT:Vs Nq (some (Z aM off)) o.fs:=v.sl E aR;have Nr:=O (F.out _ aO);have aU:=O Nt;go_wp2;go_roundw;exact⟨j+1,aw,f5,by omega,by go_num,aS,aU,Nr,aP,aT,bj.trans E⟩;simp[intOf];omega
   go_wp2;refine rn_ ?_;rw[P.out];have m:=z.out;rw[F7 X]at m;exact⟨a,s,rfl,au,q5.node HG.out h0 m,L.out,V⟩
end
end
section
open Go.RowKit Go.Maps
def zk{T:List TypeId}{w w':World}{R:Value->Option (DataW Unit × List MemPlace)}{b r n:Nat}{c:DataW Unit}{m:Lit->Bool}{i:Nat}(h:w.ranges prog 2 R b r n c m i)(k:Fx base T w w'):w'.ranges prog 2 R b r n c m i:=by
 obtain⟨y,d,u,F,t,C,q,E,B,D,rest⟩:=h;exact⟨y,d,u,F,t,k.iy b _ C (λv G z e=>by cases e),q,E,B,k.iy r _ D (λv G z e=>by cases e),rest⟩
def AI(y x:Int):(Lit.int .i64 y).sameKey (Lit.int .i64 x)=decide (y=x):=by
 by_cases h:y=x;subst h;rw[Gv rfl];exact WideAt.sameKey_self (by simp[WideAt.IsKeyLit]);rw[G6 h];cases e:(Lit.int .i64 y).sameKey (Lit.int .i64 x)with
 |false=>rfl
 |true=>have:=WideAt.sameKey_eq e;injection this with _ this;exact Gc this h
def GA.grn{r:Nat}{w w':World}{l:QR}(h:GA base w g l)(k:∀cs t b,w.heap[r]?≠some (.cells cs t b))(i:J [r] w w'):GA base w' g l:=by
 obtain⟨u,A,q,c,v⟩:=h;exact⟨u,A,q,c.gr i (λm=>by rw[J_]at m;subst m;exact k _ _ _ c),kz v (λcs b=>k cs 2 b) i⟩
def xG{E:Rw->TypeId}{aJ:TypeId}(hA:OA)(hc:Nat)(l:QT)(RA:OA)(ap:Nat)(rs:QR)(w:World)(V:sC aQ w hA l)(hR:q0 E w l)(hn:l.length<=50000000)(h0:(0:Int)∉iQ (hX l))(aD:∀x∈iQ (hX l),mH x)(aE:Sl w aJ 1 RA rs.length (zs rs))(b9:rs.length<=1000000000):
 Calls prog 35 #[.agg #[.slice hA l.length hc],.slice RA rs.length ap] w (jR (lk (hX l) rs) w):=by
 refine h6 λQ ao=>?_;have aM:= @run_makeMap prog;obtain⟨u,g,aV,hg,i,hB⟩:=box1 w 35 #[.slice hA l.length hc];have am:FM (u.alloc (.map #[] 0)) u.heap.size 0 (λ_=>false):=FM.made u;obtain⟨al,b6⟩:=mn_ (u.alloc (.map #[] 0));obtain⟨M,an⟩:=mn_ u.heap.size;have r:J [] u al:=by rw[<-b6];exact(F_ [] u).alloc _
 have bJ:w.heap.size<=M:=ov i.size;rw[b6,an]at am;obtain⟨D,bf,bv,bI,bu,ae,v,bH,L⟩:=tP al 105 #[.map (some M)] 129 #[.nilFunc];have aT:=L.f_ 0;have bA:=L.hG 0;have N:J [bv] D (D.setCell (Z bv 0) (.func (.func 74) #[] #[q_ g,q_ bf,q_ bv])):=(F_ [bv] D).setCell (p:=Z bv 0) (.inl H) _;go_enter func35,ntmps35;go_upto_region 4 with fail;have A:=am.hF v;have ad:FM (D.setCell (Z bv 0) (.func (.func 74) #[] #[q_ g,q_ bf,q_ bv])) M 0 (λ_=>false):=A.iy (N.block M A.bm.lt (λq=>by rw[J_]at q;subst q;exact A.not _ _ _ L));have bR:=L.hU 0 (.func (.func 74) #[] #[q_ g,q_ bf,q_ bv]);have aL:=(i.trans r).trans v;have bG:w.heap.size<=bv:=by have:=i.size;have:=r.size;omega
 have n:=aL.hI N (λb R=>.inr (by rw[J_]at R;omega));have ax:g≠bv:=by have:=hB.lt;have:=r.size;omega
 have aA:bf≠bv:=X;have m:VM g bf bv M hA hc l (D.setCell (Z bv 0) (.func (.func 74) #[] #[q_ g,q_ bf,q_ bv])):=⟨((hB.hF r).hF v).gr N (zu ax),bH.gr N (zu aA),by simpa using bR,⟨_,V.hF n⟩,⟨_,hR.hF n⟩⟩;clear hB bH L bR i r v N aL am A aT bA aM ax aA;obtain⟨ar,ce⟩:=nm_ (D.setCell (Z bv 0) (.func (.func 74) #[] #[q_ g,q_ bf,q_ bv]));rw[<-ce]at ad n m |-;clear ce bI b6 aV hg bu ae an;have bd:=O (show t7 (hX l) (λx=>(λ_=>false) x=true)<=(hX l).length from B8);have bn:(hX l).length=l.length:=h5 l
 go_wp2_with fail;go_loopw [15] (λaq wr=>∃(k nn:Nat) (f:Int->Bool),k<=rs.length/\aq=Y k/\FM wr M nn f/\Hid (nn+t7 (hX l) (f · =true)<=(hX l).length)/\Hid (q5 (hX l) (rs.take k) (λ_=>False) (f · =true))/\VM g bf bv M hA hc l wr/\J [] w wr) (λaq _=>rs.length-(intOf aq).toNat)
 case atStart=>exact⟨0,0,_,L_ _,gn,ad,O (ov bd.out),O ((q5.nil _ _).congr (λ_=>Iff.rfl) λx=>H),m,n⟩
 clear ad bd m n;obtain⟨k,nn,f,G,rfl,au,aX,F,m,i⟩:=hrel;have z3:=m.b3.f_ 0;by_cases ag:k<rs.length
 .obtain⟨bk,off,bm,bo,t,B⟩:=Sl.at_ aE ag;have dR:bm=Y rs[k]:=by
   have:(zs rs)[k]?=some (Y rs[k]):=by simp[K_ ag]
   rw[this]at t;injection t with t;exact t.symm
  subst dR;subst bo;have ah:=i.f_ B H;have bl:=O (Q_ ag);generalize rs[k]=x at*;have I:=O (visit_any (M:=M) (K:=(hX l).length) X h0 aD X (t7 (hX l) (f · =true)+1) f nn x wr (Nat.lt_succ_self _) m au aX.out);clear B t;go_wp2_with fail;go_at_call 74;refine I.out.mono ?_;unfold BV;rintro e Nq⟨aw,P,rfl,C,z,y,U⟩;have W:=m.gr au U;have S:=O (show q5 (hX l) (rs.take (k+1)) (λ_=>False) (P · =true) by rw[bl.out];exact F.out.app z);have T:=O y;have cZ:J [] w Nq:=i.hI U (λb R=>.inr (by rw[J_]at R;omega));clear z y;go_wp2;go_roundw;exact⟨k+1,aw,P,X,gn,C,T,S,W,cZ⟩;exact mz
 have P:=F.out;rw[F7 X]at P;have bi:=O (show ∀x,f x=true↔uV (hX l) (· ∈rs) x from λx=>P.reach x);obtain⟨s,bx,bF,dZ,h,bK⟩:=box1 wr 119 #[n_];have a:GA w.heap.size s bx []:=⟨ov i.size,none,0,bK,Zr.nil⟩;have aR:=m.hF h;have ay:=aR.b2.f_ 0;obtain⟨B,ak,_,_,o⟩:=au.hF h;have aS:Maps.size B<=l.length:=by
  have h1:=o.size (ys:=lk (hX l) rs) ⟨(jF _ _).lt,λx=>((jF (hX l) rs).mem x).trans (bi.out x).symm⟩;rw[h1,<-h5 l];have:=lz (lk (hX l) rs) (l:=iQ (hX l)) (jF _ _).nodup λx P=>(((jF (hX l) rs).mem x).1 P).ids;simpa[iQ]using this
 have bL:=i.trans h;clear m au P F aX bK aR z3;go_wp2_with (first|(at_range;refine wpList_range_own _ rfl _ 105 rfl 2 4 (int_keyed underlying2) underlying105 (plainElem prog 4) M nn B rfl ak ?_;intro w0 aj aY Nu)|go_in);obtain⟨z,hr⟩:=nm_ s.heap.size;have bC:w.heap.size<=z:=by have:=i.size;have:=h.size;omega
 rw[<-hr]at aj |-;clear hr Nu ay;have af:J [] s w0:=(F_ [] s).grown aY (λk G=>by cases G);have a:=a.hF af;have aI:=bL.trans af;have bS:=O (show ∀x,Maps.has B (Lit.int .i64 x)=true↔f x=true from o.has);have aH:=O aS;clear aY af ak o aS bL h i
 go_frame;go_loopw [10] (λaq wr=>∃(y:Lit->Bool) (S:Nat) (t:QR),wr.ranges prog 2 (plainElem prog 4) M z nn B y S/\GA w.heap.size wr bx t/\Hid (∀x,x∈t↔f x=true/\y (Lit.int .i64 x)=false)/\Hid (∀x,y (Lit.int .i64 x)=true->f x=true)/\t.length+S<=Maps.size B/\J [] w wr) (λ_ wr=>wr.rangeLeft M z)
 case atStart=>exact⟨_,_,[],aj,a,O (λx=>⟨λq=>(by cases q),λq=>by rw[(bS.out x).2 q.1]at q;cases q.2⟩),O (λx q=>(bS.out x).1 q),H,aI⟩
 clear aj a aI;obtain⟨y,S,t,W,hA,F,bD,bX,i⟩:=hrel;have aG:=O W;go_upto_region 12 with(at_next;refine wpList_next_ranges _ rfl _ rfl 2 (int_keyed underlying2) (plainElem prog 4) (Value.int .i64) Value.bool (λbM j bw=>by obtain⟨x,rfl,_⟩:=Maps.keyOf_int_inv underlying2 bw;exact⟨x,rfl⟩) (λbN b hv=>by obtain⟨c,rfl,_⟩:=nM underlying4 hv;exact⟨c,rfl⟩) M z nn B y S rfl aG.out (λbj hl0=>?_) (λx c j b T br b0 hl1 hv1 bt a7 aZ hg1 b5 b8=>?_))
 .have bg:=O hl0;clear hl0 W;have bE:=aH.out;have I:=O (rY hA X i.size);go_wp2_with (go_at_call 70;refine I.out.mono ?_;rintro e Nq⟨aW,c5,rfl,a6,bz,C⟩);rw[ao.out];have he:kH t=lk (hX l) rs:=Asc.eq (kG t) ⟨(jF _ _).lt,λx=>by
   rw[(jF (hX l) rs).mem,<-bi.out,F.out,bg.out];simp⟩
  rw[<-he];exact⟨aW,c5,rfl,a6,bz,C.gr w (H_ _) i⟩
 obtain⟨x',ex,rfl,aC⟩:=Maps.keyOf_int_inv underlying2 b0;cases ex
 have ai:J [z] wr T:=(F_ [z] wr).grown hg1 (λk G=>by injection G with G;exact .inl (by simp[G]));have bo:GA w.heap.size T bx t:=hA.grn (λcs bO fz q=>by
  obtain⟨es,d,bp,seen,aB,_,_,_,_,hr,_⟩:=W;rw[hr]at q;cases q) ai
 have r:J [] w T:=i.hI ai (λb R=>.inr (by rw[J_]at R;omega));have Np:=(F_ [] T).alloc (.cells #[Y x] 2);have v:=r.trans Np;have bE:=aH.out;have I:=O (pH (c:=1) (bo.hF Np) (Ls.one T x) v.size (by simp only[Y_,Gz];omega));have bB:=a7.alloc (.cells #[Y x] 2);have HM:Hid (wr.rangeLeft M z=S):=O aG.out.left_eq;have bP:=O (show ∀b,b∈t++[x]↔f b=true/\(y (Lit.int .i64 b)&& !(Lit.int .i64 b).sameKey (Lit.int .i64 x))=false from λb=>by
  rw[W_,F.out,J_,AI];by_cases e:b=x;subst e;simp[bD.out _ hl1];simp[e])
 have aF:=O (show ∀b,(y (Lit.int .i64 b)&& !(Lit.int .i64 b).sameKey (Lit.int .i64 x))=true->f b=true from λb q=>bD.out b (by simp at q;exact q.1));clear W a7 hA bo i r Np ai hg1 b5 hl1 b0 hv1 bt;go_wp2_with (go_at_call 67;refine I.out.mono ?_;rintro e Nq⟨rfl,az,C⟩);have a8:=zk bB C;have U:=C.gr w (H_ _) v;go_roundw;exact⟨_,br,_,a8,az,bP,aF,p_,U⟩;rw[a8.left_eq,HM.out];omega
end
def o9(p:Nat)(w:World)(l:QT):Prop:=∃cur,Bk w p 56 cur/\∀(i:Nat) (u:Value),(iT l)[i]?=some u->cur[i]?=some u
section
variable{p:Nat}{w w':World}{l:QT}
def o9.os(h:o9 p w l):Os w (j_ p) l:=by
 obtain⟨b,c,hc⟩:=h;exact⟨lv l,λ_=>⟨p,0,b,(0,0),rfl,c,λj k i=>by rw[X_];exact hc j k i⟩⟩
def o9.hF(h:o9 p w l)(i:J [] w w'):o9 p w' l:=by
 obtain⟨b,c,hc⟩:=h;exact⟨b,c.hF i,hc⟩
def o9.fr(h:o9 p w l)(i:Nat):w.frozen? (Z p i)=false:=by
 obtain⟨c,b,_⟩:=h;exact b.hG i
def o9.set(h:o9 p w l){k:Nat}(t:k<l.length)(r:Rw):o9 p ((w.setCell (Z p (k*2)) (Y r.o.id)).setCell (Z p (k*2+1)) (.slice r.A r.o.fs.length r.c)) (l.set k r):=by
 obtain⟨D,c,hc⟩:=h;have q:=pR Rw.E (λ_=>rfl) t r (Y r.o.id) (.slice r.A r.o.fs.length r.c) rfl c hc l.length rfl;have b:=(c.hU (k*2) (Y r.o.id)).hU (k*2+1) (.slice r.A r.o.fs.length r.c);obtain⟨B,F,C,E,hA,i,m⟩:=q.2 X;injection hA with hA;injection hA with hA u;subst hA;subst u;have e:=b.symm.trans i;injection e with e;injection e with e;exact⟨_,b,λy z v=>by rw[e];have:=m y z v;rwa [X_]at this⟩
def Bp(k:Nat)(x y:Value):J [p] w ((w.setCell (Z p (k*2)) x).setCell (Z p (k*2+1)) y):=
 ((F_ [p] w).setCell (p:=Z p (k*2)) (.inl H) x).setCell (p:=Z p (k*2+1)) (.inl H) y
def o9.vs(h:o9 p w l)(c:J [p] w w'){A:OA}{fs:QA}(i:Vs w A fs):Vs w' A fs:=by
 obtain⟨k,b,_⟩:=h;exact Sl.iq i b I c
end
def xW{D:TypeId}(o:Ob)(A:OA)(c:Nat)(w:World)(h:vK D w A o.fs)(v:o.fs.length<=1000000000):
 Calls prog 158 #[.agg #[Y o.id,.slice A o.fs.length c]] w λe w'=>∃(A':OA) (c':Nat),e=.returned (.agg #[Y o.id,.slice A' o.fs.length c'])/\Vs w' A' o.fs/\J [] w w':=by
 obtain⟨id,i⟩:=o;simp only at h v |-;obtain⟨y,g,b,R,hg,L,t,u,C⟩:=tP w 56 #[Y id,.slice A i.length c] 56 #[Y 0,n_];obtain⟨N,S⟩:=u.iA;have z:=O (rX A c i y (h.hF t) v)
 go_enter func158,ntmps158;go_wp2_with fail;go_at_call 151;refine z.out.mono ?_;rintro e K⟨k,c1,rfl,G,r⟩;have q:=u.hF r;obtain⟨z0,P⟩:=q.iA;have T:=q.hG 1;have m:=C.hF r;obtain⟨V,U⟩:=m.iA;have W:=m.hG 0;have dB:=m.hG 1;have B:b≠g:=X;go_wp2;have a:=m.ih (p:=Z g 1) B (.slice k i.length c1);have E:=(a.hU 0 (Y id)).hU 1 (.slice k i.length c1);have F:w.heap.size<=g:=X;refine rr_ #[Y id,.slice k i.length c1] E underlying56 ⟨k,c1,rfl,?_,?_⟩;exact Sl.iq (Sl.iq G q I ((F_ [g] K).setCell (p:=Z g 1) (.inl H) _)) a I (((F_ [b] _).setCell (p:=Z b 0) (.inl H) _).setCell (p:=Z b 1) (.inl H) _);exact(((t.trans r).setCell (p:=Z g 1) (.inr F) _).setCell (p:=Z b 0) (.inr (by show w.heap.size<=b;omega)) _).setCell (p:=Z b 1) (.inr (by show w.heap.size<=b;omega)) _
def vx(A:OA)(c:Nat)(l:QT)(w:World)(h:sC aQ w A l)(z:l.length<=1000000000):
 Calls prog 193 #[.slice A l.length c] w λe w'=>∃(A':OA) (c':Nat),e=.returned (.slice A' l.length c')/\l.length<=c'/\w'.ownsRow w.heap.size 56 2 (.slice A' l.length c') l.length (iT l)/\J [] w w':=by
 obtain⟨v,t,u,q,m⟩:=info_parts infoOb;have r:=λk=>Lib.run_eql_slice_nil (P:=prog) k 33 56 A l.length c 0 0 underlying33;rcases A with _|d
 .have h0:l.length=0:=L3;have i:l=[]:=Gh h0;subst i;simp only[Gz]at r |-
  go_enter func193,ntmps193;go_wp2;go_ret;exact⟨none,0,rfl,H_ _,iS _ _ _ _,F_ _ _⟩
 generalize y:l.length=n at*
 go_enter func193,ntmps193;go_wp2_with (at_builtin;refine iL _ rfl (.tmp 5) (.tmp 6) 33 rfl w.heap.size 56 v _ 2 32 underlying33 t u q m rfl I I _ 0 0 [] rfl (pV _ _ _ _ _ H H) (some d) n c (iT l) rfl (by subst y;exact Sl.alloc h _) (jA l) X H ?_;intro i c1 B a f;simp only[X_,Gf]at a);go_ret;refine⟨i,c1,oy X,iY a,a,f.gr [] w X ((F_ _ w).alloc _)⟩
def BB{E:Rw->TypeId}(A:OA)(c:Nat)(l:QT)(w:World)(h:sC aQ w A l)(R:q0 E w l)(hn:l.length<=1000000000):
 Calls prog 157 #[.slice A l.length c,.func (.func 158) #[] #[]] w λe w'=>∃(A':OA) (c':Nat) (i:QT),e=.returned (.slice A' l.length c')/\hX i=hX l/\l.length<=c'/\(0<l.length->∃p,A'=j_ p/\w.heap.size<=p/\o9 p w' i)/\l5 w' i/\J [] w w':=by
 refine h6 λQ ao=>?_;have Z:=O (vx A c l w h hn);go_enter func157,ntmps157;go_wp2_with fail;go_at_call 193;refine Z.out.mono ?_;rintro e w1⟨T,c1,rfl,cj,cO,hg1⟩;go_wp2_with fail;go_loopw [12] (λG wr=>∃(b:Nat) (i:QT),b<=l.length/\G=Y b/\i.length=l.length/\Hid (hX i=hX l)/\i.drop b=l.drop b/\l5 wr (i.take b)/\(0<l.length->∃p,T=j_ p/\w.heap.size<=p/\o9 p wr i)/\J [] w wr) (λG _=>l.length-(intOf G).toNat)
 case atStart=>
  refine⟨0,l,L_ _,gn,rfl,O rfl,rfl,λk R=>by simp at R,λq=>?_,hg1⟩;obtain⟨p,m,hA,r,F,hc⟩:=kK cO q;exact⟨p,hA,r,m,F,hc⟩
 obtain⟨b,i,hi,rfl,be,U,I,f,W,P⟩:=hrel;by_cases y:b<l.length
 .obtain⟨p,hA,ax,L⟩:=W X;subst hA;have v:b<i.length:=X;have N:i[b]=l[b]:=by
   have e:=I;rw[R_ y,R_ v]at e;injection e
  obtain⟨ae,off,hA,C,D⟩:=L.os.at_ v;injection hA with hA;injection hA with hA af;subst hA;subst af;obtain⟨hv,K⟩:=R.hF P l[b] (N_ y);rw[N]at C D;simp only[X_]at C D;have M:=O N;clear N;have ar:=O I;clear I;obtain⟨k,a⟩:=mn_ l[b];have bi:=O a;rw[a]at hv K C D;clear a;obtain⟨ai,gb,aV,aD,q,F⟩:=box1 wr 56 #[Y k.o.id,.slice k.A k.o.fs.length k.c];obtain⟨al,ah⟩:=F.iA;have Nw:=O (xW k.o k.A k.c ai (hv.hF q) K);have bF:=L.hF q;have S:=f.hF q;have Np:=P.trans q;clear L f F Z;go_wp2_with fail;go_at_call 158;refine Nw.out.mono ?_;rintro e w2⟨B,z,rfl,V,r⟩;have t:=bF.hF r;have aT:=r.f_ (q.f_ C H) H;have bp:=r.f_ (q.f_ D H) H;have bA:=t.fr (b*2);have bL:=t.fr (b*2+1);have db:=t.set v ⟨k.o,B,z⟩;have u:=Bp (p:=p) (w:=w2) b (Y k.o.id) (.slice B k.o.fs.length z);have bG:=t.vs u V;have d:l5 _ (i.take b):=λx m=>⟨t.vs u (S.hF r x m).1,(S.hF r x m).2⟩;have ad:=(Np.trans r).hI u (λam hy=>.inr (by rw[J_]at hy;omega));clear t u bF V S;go_wp2;go_roundw
  case rel=>
   refine⟨b+1,i.set b ⟨k.o,B,z⟩,X,gn,by simpa using be,O ?_,?_,?_,λ_=>⟨p,rfl,ax,db⟩,ad⟩;rw[sw,U.out];apply Ic;intro j;rw[Ik];split
   .rename_i e;subst e;have:(hX l)[b]?=some k.o:=by unfold hX;rw[GF,K_ y,bi.out];rfl
    rw[this];simp[h5,y]
   rfl;rw[IG X,List.drop_add_one_eq_tail_drop,ar.out,<-List.drop_add_one_eq_tail_drop];intro x m;rw[List.take_set,Q_ v]at m;rw[Iv _ _ p_]at m;rcases W_.1 m with m|m
   exact d x m;have:x=⟨k.o,B,z⟩:=by
    rw[Gp,Ig X,Nat.sub_self]at m;simpa using m
   subst this;exact⟨bG,K⟩
  case measure=>exact mz
 go_wp2;rw[ao.out];refine⟨T,c1,i,rfl,U.out,cj,W,?_,P⟩;rw[F7 X]at f;exact f
def wE{E:Rw->TypeId}(A:OA)(c:Nat)(l:QT)(w:World)(h:sC aQ w A l)(r:q0 E w l)(S:l.length<=1000000000):
 Calls prog 111 #[.agg #[.slice A l.length c]] w λe w'=>∃(A':OA) (c':Nat) (b:QT),e=.returned (.agg #[.slice A' l.length c'])/\hX b=hX l/\l.length<=c'/\(0<l.length->∃p,A'=j_ p/\w.heap.size<=p/\o9 p w' b)/\l5 w' b/\J [] w w':=by
 refine h6 λQ F=>?_;obtain⟨B,g,m,aV,hg,X,k,P,v⟩:=tP w 35 #[.slice A l.length c] 35 #[n_];have Y:=P.f_ 0;have D:=O (BB A c l B (h.hF k) (r.hF k) S);go_enter func111,ntmps111;go_wp2_with fail;go_at_call 157;refine D.out.mono ?_;rintro e u⟨i,c1,b,rfl,T,K,C,f,y⟩;have q:=v.hF y;have bz:=q.f_ 0;have bA:=q.hG 0;go_wp2;have G:=q.hU 0 (.slice i l.length c1);have t:J [m] u (u.setCell (Z m 0) (.slice i l.length c1)):=(F_ [m] u).setCell (p:=Z m 0) (.inl H) _;refine rr_ #[.slice i l.length c1] G underlying35 ?_;rw[F.out];refine⟨i,c1,b,rfl,T,K,λN=>?_,λz r=>⟨Sl.iq (f z r).1 q I t,(f z r).2⟩,(k.trans y).hI t (λad V=>.inr (by rw[J_]at V;omega))⟩;obtain⟨p,hA,U,L,R,hc⟩:=C N;refine⟨p,hA,G_ k.size U,L,R.gr t (λW=>?_),hc⟩;rw[J_]at W;have:=v.lt;omega
def sZ{p k m c:Nat}{b:Array Value}{w:World}(v:Bk w p 56 b)(I:0<m)(F:k*2+m*2<=b.size):
 ∃w',(∀y,(Builtin.clear_ #[33] y #[.slice (some (Z p (k*2))) m c]).run prog w=.ok (.tuple #[]) w')/\J [p] w w'/\∃t,Bk w' p 56 t/\∀i,i<k*2->t[i]?=b[i]?:=by
 obtain⟨m,rfl⟩:∃q,m=q+1:=⟨m-1,X⟩;have D:(Builtin.zeroCells #[Y 0,n_] (m+1)).toList.length=(m+1)*2:=by simp[Builtin.zeroCells]
 have C:∀z∈(Builtin.zeroCells #[Y 0,n_] (m+1)).toList,z.oneCell'=true:=by
  intro z r;simp[Builtin.zeroCells]at r;obtain⟨a,G,rfl⟩:=r;have:a % 2=0∨a % 2=1:=X;rcases this with h|h<;>simp[h,Value.oneCell']
 have u:=run_storeCells_at prog p (k*2) 56 (Builtin.zeroCells #[Y 0,n_] (m+1)).toList 0 b w v (by rw[D];omega) C;simp only[HC]at u;have r:=λB=>zeroValue56 B;refine⟨_,λy=>by simp[Builtin.clear_,G0 underlying33,r,u,Value.cells];rfl,?_,?_⟩;exact⟨rfl,rfl,rfl,H,λk F E=>setRow_other w p k _ (zu E)⟩;refine⟨_,setRow_heap w p b _ 56 (0,0) v,λi E=>?_⟩;rw[Iw,GT p_,List.getElem?_take_of_lt E,Array.getElem?_toList]
def Fu(v s:Nat)(a:Ob->Bool)(p:Nat)(W:World):Prop:=
 ∀(o:Ob) (A:OA) (c:Nat) (w:World),J [p] W w->Calls prog 112 #[.agg #[Y o.id,.slice A o.fs.length c],q_ v,q_ s] w λe w'=>e=.returned (.bool (a o))/\J [] w w'
def ud{v:Nat}{p n c:Nat}{l:QT}{W w:World}(u:Fu v s a p W)(N:J [p] W w)(L:o9 p w l)(U:l.length=n)(S:n<=1000000000):
 Calls prog 156 #[.slice (j_ p) n c,.func (.func 112) #[] #[q_ v,q_ s]] w λe w'=>e=.returned (Y (iM (λr:Rw=>a r.o) l 0))/\J [] w w':=by
 refine h6 λQ y=>?_;have G:=O (show iM (λr:Rw=>a r.o) l 0=iM (λr:Rw=>a r.o) (l.drop 0) 0 from rfl);have C:=O u;clear u;go_enter func156,ntmps156;go_wp2;go_loopw [8] (λt w'=>∃b:Nat,b<=n/\t=Y b/\Hid (iM (λr:Rw=>a r.o) l 0=iM (λr:Rw=>a r.o) (l.drop b) b)/\J [] w w') (λt _=>n-(intOf t).toNat)
 case atStart=>exact⟨0,L_ _,gn,G,F_ _ _⟩
 obtain⟨b,T,rfl,q,i⟩:=hrel;by_cases P:b<n
 .have k:b<l.length:=X;obtain⟨R,V,hA,I,K⟩:=(L.hF i).os.at_ k;injection hA with hA;injection hA with hA B;subst hA;subst B;simp only[X_]at I K;have F:=O (lA (λr:Rw=>a r.o) l b b k);have HM:=O (kt (λr:Rw=>a r.o) l b b k);generalize l[b]=r at*;have E:=O (C.out r.o r.A r.c wr (N.hI i H));clear k;go_wp2_with fail;go_at_call 112;refine E.out.mono ?_;rintro e Z⟨rfl,D⟩;have z:=i.trans D;cases m:a r.o with
  |true=>
   have M:=O (F.out m);clear m;go_wp2;rw[y.out,q.out,M.out];exact⟨rfl,z⟩
  |false=>
   have M:=O (HM.out m);clear m;go_wp2;go_roundw;exact⟨b+1,X,gn,O (by rw[q.out,M.out]),z⟩;exact mz
 go_wp2;rw[y.out,q.out,l0 _ _ _ _ X];exact⟨rfl,i⟩
def Bf(q:α->Bool)(l:List α):(iM q l 0= -1/\∀x∈l,q x=false)∨∃k,∃r:k<l.length,iM q l 0=(k:Nat)/\q l[k]=true/\∀x∈l.take k,q x=false:=by
 suffices Nw:∀j:Nat,(iM q l j= -1/\∀x∈l,q x=false)∨∃k,∃r:k<l.length,iM q l j=(j+k:Nat)/\q l[k]=true/\∀x∈l.take k,q x=false by
  rcases Nw 0 with h|⟨k,r,i,m⟩
  exact .inl h;exact .inr ⟨k,r,by rw[i];simp,m⟩
 induction l with
 |nil=>intro j;left;exact⟨rfl,λx b=>by cases b⟩
 |cons o l t=>
  intro j;by_cases c:q o=true;right;exact⟨0,H,by simp[iM,c],by simpa using c,λx b=>by simp at b⟩;have u:iM q (o::l) j=iM q l (j+1):=by simp[iM,c]
  have c:q o=false:=zu c;rw[u];rcases t (j+1)with⟨i,m⟩|⟨k,r,i,m,v⟩
  exact .inl ⟨i,λx b=>by rcases O_.1 b with rfl|b;exact c;exact m x b⟩;refine .inr ⟨k+1,by simpa using r,by rw[i];congr 1;omega,by simpa using m,λx b=>?_⟩;rw[IF]at b;rcases O_.1 b with rfl|b
  exact c;exact v x b
def uJ{q:α->Bool}{l:List α}(h:∀x∈l,q x=false):l.filter (λx=> !q x)=l:=List.filter_eq_self.2 λx b=>by simp[h x b]
def wG{v:Nat}{p n c:Nat}{l:QT}{w:World}(N:Fu v s a p w)(t:o9 p w l)(W:l.length=n)(bI:n<=1000000000)(C:n<=c):
 Calls prog 110 #[.slice (j_ p) n c,.func (.func 112) #[] #[q_ v,q_ s]] w λe w'=>∃b,e=.returned (.slice (j_ p) b.length c)/\b=l.filter (λr=> !a r.o)/\Os w' (j_ p) b/\J [p] w w':=by
 refine h6 λQ ao=>?_;have ad:=O N;have aK:=O (ud N (F_ [p] w) t W bI (c:=c));clear N;rcases Bf (λr:Rw=>a r.o) l with⟨F,D⟩|⟨k,hk,F,ar,D⟩
 .have R:=O F;have G:=O (uJ (q:=λr:Rw=>a r.o) D);clear F D;go_enter func110,ntmps110;go_wp2_with fail;go_at_call 156;refine aK.out.mono ?_;rintro e w1⟨rfl,E⟩;rw[R.out];go_wp2;rw[ao.out];exact⟨l,by rw[W];rfl,G.out.symm,(t.hF E).os,(F_ [p] w).hI E H⟩
 have R:=O F;have G:=O (show(l.take (k+1)).filter (λr=> !a r.o)=l.take k by
  rw[Q_ hk,HH,uJ D];simp[ar])
 clear F D ar;go_enter func110,ntmps110;go_wp2_with fail;go_at_call 156;refine aK.out.mono ?_;rintro e w1⟨rfl,E⟩;rw[R.out];have aw:=t.hF E;have ae:=(F_ [p] w).hI E (by simp:∀x∈([]:QY),x∈[p]∨w.heap.size<=x);clear t;go_wp2_with fail;go_loopw [5,6] (λaq d wr=>∃(i j:Nat) (b:QT),i<j/\j<=n/\aq=Y i/\d=Y j/\o9 p wr b/\b.length=n/\Hid (b.take i=(l.take j).filter (λr=> !a r.o))/\Hid (b.drop j=l.drop j)/\J [p] w wr) (λ_ d _=>n-(intOf d).toNat)
 case atStart=>exact⟨k,k+1,l,X,X,gn,gn,aw,W,O G.out.symm,O rfl,ae⟩
 clear aw ae G;obtain⟨i,j,b,ai,hj,rfl,rfl,t,be,T,HD,hg⟩:=hrel;by_cases ag:j<n
 .have bC:j<b.length:=X;have aj:j<l.length:=X;have K:i<b.length:=X;obtain⟨al,off,hA,bj,bn⟩:=t.os.at_ bC;injection hA with hA;injection hA with hA L;subst hA;subst L;obtain⟨al,off,hA,aQ,a2⟩:=t.os.at_ K;injection hA with hA;injection hA with hA L;subst hA;subst L;simp only[X_]at bj bn aQ a2;have V:b[j]=l[j]/\b.drop (j+1)=l.drop (j+1):=by
   have e:=HD.out;rw[R_ bC,R_ aj]at e;injection e with aJ aG;exact⟨aJ,aG⟩
  rw[V.1]at bj bn;have cf:=O V.2;have ap:=O (show(l.take (j+1)).filter (λr=> !a r.o)=(l.take j).filter (λr=> !a r.o)++(if a l[j].o=true then[] else[l[j]]) by
   rw[Q_ aj,HH];cases y:a l[j].o<;>simp[y])
  clear V;generalize l[j]=r at*;obtain⟨am,gb,aV,aD,I,u⟩:=box1 wr 56 #[Y r.o.id,.slice r.A r.o.fs.length r.c];have an:=hg.hI I (by simp:∀x∈([]:QY),x∈[p]∨w.heap.size<=x);have Nw:=O (ad.out r.o r.A r.c am an);have S:=t.hF I;obtain⟨au,ah⟩:=u.iA;go_wp2_with fail;go_at_call 112;refine Nw.out.mono ?_;rintro e w2⟨rfl,z⟩;have B:=S.hF z;have et:=an.hI z (by simp:∀x∈([]:QY),x∈[p]∨w.heap.size<=x);cases y:a r.o with
  |true=>
   have P:=O (show(l.take (j+1)).filter (λr=> !a r.o)=(l.take j).filter (λr=> !a r.o) by rw[ap.out,y];simp);have f:=O (T.out.trans P.out.symm);clear y t S u;go_wp2;go_roundw;repeat(first|(refine⟨?_,rfl⟩;exact⟨i,j+1,b,X,X,rfl,gn,B,be,f,cf,et⟩)|apply Exists.intro)
   exact mz
  |false=>
   have P:=O (show(l.take (j+1)).filter (λr=> !a r.o)=(l.take j).filter (λr=> !a r.o)++[r] by rw[ap.out,y];simp);have U:=u.hF z;obtain⟨z0,aR⟩:=U.iA;have aT:=z.f_ (I.f_ aQ H) H;have bp:=z.f_ (I.f_ a2 H) H;have bA:=B.fr (i*2);have bL:=B.fr (i*2+1);have db:=B.set K r;have Z:=Bp (p:=p) (w:=w2) i (Y r.o.id) (.slice r.A r.o.fs.length r.c);have A:=et.trans Z;have f:=O (show(b.set i r).take (i+1)=(l.take (j+1)).filter (λr=> !a r.o) by
    rw[P.out,<-T.out,List.take_set,Q_ K,Iv _ _ p_];simp[Ig (Nat.le_of_lt K)])
   have cn:=O (show(b.set i r).drop (j+1)=l.drop (j+1) by rw[IG X];exact cf.out);clear y t S B u Z;go_wp2;go_roundw;repeat(first|(refine⟨?_,rfl⟩;exact⟨i+1,j+1,b.set i r,X,X,gn,gn,db,by simpa using be,f,cn,A⟩)|apply Exists.intro)
   exact mz
 have K:j=n:=X;subst K;obtain⟨z,u,g⟩:=t;have Z:b.length*2<=z.size:=by
  rcases GR b.length with L|L
  omega;have iF:(iT b).length=b.length*2:=lv b;have P:b.length*2-1<(iT b).length:=X;have:=g _ _ (K_ P);rcases Ga (b.length*2-1) z.size with h|h
  omega;exact Nj
 obtain⟨af,hcl,B,I,U,S⟩:=sZ (k:=i) (m:=j-i) (c:=c-i) u X X;have f:=O (show b.take i=l.filter (λr=> !a r.o) by have e:=T.out;rwa [F7 (l:=l) X]at e);go_wp2;rw[ao.out];refine⟨b.take i,by rw[Gp,Ig X];rfl,f.out,⟨lv _,λ_=>⟨p,0,I,(0,0),rfl,U,λq V y=>?_⟩⟩,hg.trans B⟩;unfold iT at y;rw[tM Rw.E 2 (λ_=>rfl),G1]at y;split at y;rw[X_,S q (by assumption)];exact g q V y;cases y
def ym(t:jb)(M:QR):Nat->List Int
 |0=>j3 t.gs++(j3 t.rs++(j3 t.ws++M))
 |1=>j3 t.rs++(j3 t.ws++M)
 |2=>j3 t.ws++M
 |_=>M
def v8(t:jb)(R:QR):lj t++R=ym t (t.ds.map (·.id)++(jr t.nw++R)) 0:=by
 simp[lj,ym]
def s4{fs:QA}(b:j<fs.length):jO (fs.drop j)=lr fs[j]++jO (fs.drop (j+1)):=by
 rw[R_ b];unfold jO lr;rw[Hr];split<;>simp
def s5{h:QQ}(b:j<h.length):jr (h.drop j)=jO h[j].fs++jr (h.drop (j+1)):=by
 rw[R_ b];rfl
def vn{xs r L:QR}(h:xs++r=L):xs.length<=L.length:=by rw[<-h];simp
def q9{P:Program}{rest:QZ}{o:Oper}{a:Act}{w:World}{i:Operand}{t:TypeId}{cs:Array Value}{n:Int}{v:Value}(L:(Instr.index t (.agg cs) (Y n)).run P w=.ok v w)(h:wpList P ops Q rest (a.put o.dst v) w)(Nw:o.guard=none:=by rfl)(ho:o.op=.index t x i:=by rfl)(hx:a.eval x=.agg cs:=by rfl)(hi:a.eval i=Y n:=by rfl):wpList P ops Q (o::rest) a w:=
 wpList_plain Nw λ_ Nu=>by
  unfold Oper.wp;simp[execOp,ho,hx,hi,L,Result.andThen];exact Nu _ _ h
def E5{a b c:Value}(w:World):(Instr.index 121 (.agg #[a,b,c]) (Y 0)).run prog w=.ok a w/\(Instr.index 121 (.agg #[a,b,c]) (Y 1)).run prog w=.ok b w/\(Instr.index 121 (.agg #[a,b,c]) (Y 2)).run prog w=.ok c w:=⟨k_,k_,k_⟩
def zd{a8:TypeId}(TA:OA)(tc:Nat)(ts:QB)(w:World)(Nt:Sl w a8 48 TA ts.length (ts.flatMap λt=>t.g_.toList))(ad:∀t∈ts,rC w t)(hn:(jM (ts.map Tk.p)).length<=1000000000)
 (hb:ts.length<=1000000000/\∀t∈ts,t.gs.l.length<=1000000000/\t.rs.l.length<=1000000000/\t.ws.l.length<=1000000000/\t.ds.l.length<=1000000000/\t.nw.l.length<=1000000000):
 Calls prog 28 #[.slice TA ts.length tc] w (jR (kH (jM (ts.map Tk.p))) w):=by
 refine h6 λQ ao=>?_;obtain⟨V,g,aV,bw,Nv,hB⟩:=box1 w 119 #[n_];have a:GA w.heap.size V g []:=⟨X,none,0,hB,Zr.nil⟩;have I:=(F_ [] V).alloc (.cells #[Y 1] 2);have E:=O (pH (c:=1) (a.hF I) (Ls.one V 1) (by have:=Nv.size;simp;omega) H);have am:Fx w.heap.size [119,2] w (V.alloc (.cells #[Y 1] 2)):=.jD (Nv.trans I);have aN:=O ad;have W:=O hn;have ae:=O (show[1]++((ts.drop 0).flatMap λt=>lj t.p)=jM (ts.map Tk.p) by unfold jM;rw[List.flatMap_map];rfl);have C:=hb.1;have HB:=O hb.2;generalize jM (ts.map Tk.p)=D at*;obtain⟨base,aG⟩:=nm_ w.heap.size;rw[<-aG]at E am;have N:w.heap.size<=base:=X;have f:base<=w.heap.size:=X;go_enter func28,ntmps28;go_wp2_with fail;go_at_call 67;refine E.out.mono ?_;rintro e w1⟨rfl,bo,aF⟩;have aF:=am.trans aF;go_wp2_with fail;go_loopw [21] (λk wr=>∃(m:Nat) (b:QR),m<=ts.length/\k=Y m/\GA base wr g b/\Hid (b++((ts.drop m).flatMap λt=>lj t.p)=D)/\Fx base [119,2] w wr) (λk _=>ts.length-(intOf k).toNat)
 case atStart=>exact⟨0,_,L_ _,gn,bo,ae,aF⟩
 obtain⟨m,b,hk,rfl,hA,y,i⟩:=hrel;have u:=i.gr w N (F_ [] w);by_cases ag:m<ts.length
 .obtain⟨af,off,bo,hc⟩:=Ao Nt ag;subst bo;have R:=aN.out _ (N_ ag);have bX:=HB.out _ (N_ ag);have G:=O (show b++ym ts[m].p ((ts[m].p.ds.map (·.id))++(jr ts[m].p.nw++((ts.drop (m+1)).flatMap λt=>lj t.p))) 0=D by
   have e:=y.out;rw[R_ ag,Gi,v8]at e;exact e)
  obtain⟨K,hR⟩:=mn_ ((ts.drop (m+1)).flatMap λt=>lj t.p);rw[hR]at G;have bi:=O hR;generalize ts[m]=t at*
  have dy:∀j,j<48->wr.cell? (Z af (off+m*48+j))=t.g_[j]?:=λj hj=>by
   have h1:=hc j hj;have hs:j<t.g_.size:=by rw[Tk.size];exact hj
   rw[Gb hs]at h1 |-;exact u.f_ h1 H
  go_upto_region 6 with(first|(refine FC dy ?_)|(refine kP (t.g_) (P_ wr 53 lE) (Tk.one _) ?_;intro bQ C M));have aB:J [] wr bQ:=((F_ [] wr).alloc _).hI M (λah hy=>.inr (by rw[J_]at hy;omega));have F:=hA.hF aB;have B:=i.trans (.jD aB);generalize wr.heap.size=gt at*;have cG:bQ.cell? (Z gt 36)=some (.slice t.gs.A t.gs.l.length t.gs.c):=(C.f_ 36).trans rfl;have cH:bQ.cell? (Z gt 37)=some (.slice t.rs.A t.rs.l.length t.rs.c):=(C.f_ 37).trans rfl;have cI:bQ.cell? (Z gt 38)=some (.slice t.ws.A t.ws.l.length t.ws.c):=(C.f_ 38).trans rfl;go_wp2_with fail;go_loopw [32] (λk wr=>∃(m:Nat) (b:QR),m<=3/\k=Y m/\GA base wr g b/\Hid (b++ym t.p ((t.p.ds.map (·.id))++(jr t.p.nw++K)) m=D)/\Bk wr gt 53 t.g_/\Fx base [119,2] w wr) (λk _=>3-(intOf k).toNat)
  case atStart=>exact⟨0,b,X,gn,F,G,C,B⟩
  obtain⟨z,b,hm,rfl,hA,y,C,i⟩:=hrel;have u:=i.gr w N (F_ [] w);obtain⟨_,s1⟩:=R.gs;obtain⟨_,aW⟩:=R.rs;obtain⟨_,cx⟩:=R.ws;have d:=i.size;have bt:=W.out;by_cases h3:z<3
  .have HG:∀(A:OA) (c:Nat) (P:QX) (S:QR) {e},Sl w e 4 A P.length (P.flatMap Cl.E)->P.length<=1000000000->b++(j3 P++S)=D->Hid (Calls prog 68 #[q_ g,.slice A P.length c] wr λe w'=>e=.returned (.tuple #[])/\(∃r,GA base w' g r/\r++S=D)/\Fx base [119,2] wr w'):=
    λA c P S _ hs hl T=>O (xQ (c:=c) hA N u hs X T bt hl)
   obtain rfl|rfl|rfl:z=0∨z=1∨z=2:=by omega
   .have E:=HG t.gs.A t.gs.c t.gs.l _ s1 bX.1 y.out;go_wp2_with (first|(refine q9 (E5 wr).1 ?_)|go_at_call 68;refine E.out.mono ?_;rintro e U⟨rfl,⟨r,F,L⟩,B⟩);go_roundw;exact⟨1,r,X,gn,F,O L,B.bk C,i.trans B⟩;simp[intOf]
   .have E:=HG t.rs.A t.rs.c t.rs.l _ aW bX.2.1 y.out;go_wp2_with (first|(refine q9 (E5 wr).2.1 ?_)|go_at_call 68;refine E.out.mono ?_;rintro e U⟨rfl,⟨r,F,L⟩,B⟩);go_roundw;exact⟨2,r,X,gn,F,O L,B.bk C,i.trans B⟩;simp[intOf]
   have E:=HG t.ws.A t.ws.c t.ws.l _ cx bX.2.2.1 y.out;go_wp2_with (first|(refine q9 (E5 wr).2.2 ?_)|go_at_call 68;refine E.out.mono ?_;rintro e U⟨rfl,⟨r,F,L⟩,B⟩);go_roundw;exact⟨3,r,X,gn,F,O L,B.bk C,i.trans B⟩;simp[intOf]
  obtain rfl:z=3:=by omega
  have bJ:wr.cell? (Z gt 40)=some (.slice t.ds.A t.ds.l.length t.ds.c):=(C.f_ 40).trans rfl;obtain⟨_,df⟩:=R.ds;obtain⟨_,bY⟩:=R.nw;obtain⟨_,bU⟩:=R.nr;have s:=O (show b++((t.ds.l.drop 0).map (·.id)++(jr ((hX t.nw.l).drop 0)++K))=D from y.out);go_wp2_with fail;go_loopw [42] (λk wr=>∃(j:Nat) (b:QR),j<=t.ds.l.length/\k=Y j/\GA base wr g b/\Hid (b++((t.ds.l.drop j).map (·.id)++(jr ((hX t.nw.l).drop 0)++K))=D)/\Bk wr gt 53 t.g_/\Fx base [119,2] w wr) (λk _=>t.ds.l.length-(intOf k).toNat)
  case atStart=>exact⟨0,b,L_ _,gn,hA,s,C,i⟩
  obtain⟨j,b,hj,rfl,hA,y,C,i⟩:=hrel;have u:=i.gr w N (F_ [] w);have d:=i.size;by_cases T:j<t.ds.l.length
  .obtain⟨b2,ai,F,bj,bn,bN,bR,a6⟩:=Dc df T;have z0:=u.f_ bj H;have aR:=u.f_ bn H;have aZ:=u.f_ bN H;have z3:=u.f_ bR H;have z4:=u.f_ a6 H;have G:=O (show(b++[t.ds.l[j].id])++((t.ds.l.drop (j+1)).map (·.id)++(jr ((hX t.nw.l).drop 0)++K))=D by
    have e:=y.out;rw[R_ T]at e;rw[<-e];simp only[Gx,GE,Hx,Gf])
   have iF:=vn G.out;simp only[I_,Y_,Gz]at iF;generalize t.ds.l[j]=x at*;generalize t.ds.A=dA at*;subst F;obtain⟨a2,gb,bI,aD,I,ar⟩:=box1 wr 124 #[Y x.id,Y x.f,Y x.op,.bool x.v.r,Y x.v.n];have hq0:=ar.f_ 0;have r:=I.alloc (.cells #[Y x.id] 2);have E:=O (pH (c:=1) (hA.hF r) (Ls.one a2 x.id) (ov r.size) (by simp only[Y_,Gz];have:=W.out;omega));have ap:=O (C.hF r);have B:=i.trans (.jD r);go_wp2_with (go_at_call 67;refine E.out.mono ?_;rintro e U⟨rfl,P,S⟩);go_roundw
   case rel=>
    repeat(first|(refine⟨?_,rfl⟩;exact⟨j+1,_,X,gn,P,G,S.bk ap.out,B.trans S⟩)|apply Exists.intro)
   case measure=>exact mz
  have s:=O (show b++(jr ((hX t.nw.l).drop 0)++K)=D by
   have e:=y.out;rw[GG (l:=t.ds.l) X]at e;exact e)
  have bB:wr.cell? (Z gt 39)=some (.slice t.nw.A t.nw.l.length t.nw.c):=(C.f_ 39).trans rfl;go_wp2_with fail;go_loopw [55] (λk wr=>∃(j:Nat) (b:QR),j<=t.nw.l.length/\k=Y j/\GA base wr g b/\Hid (b++(jr ((hX t.nw.l).drop j)++K)=D)/\Fx base [119,2] w wr) (λk _=>t.nw.l.length-(intOf k).toNat)
  case atStart=>exact⟨0,b,L_ _,gn,hA,s,i⟩
  obtain⟨j,b,hj,rfl,hA,y,i⟩:=hrel;have u:=i.gr w N (F_ [] w);have d:=i.size;by_cases T:j<t.nw.l.length
  .obtain⟨b2,ai,F,bj,bn⟩:=bY.at_ T;obtain⟨hv,bl⟩:=bU _ (N_ T);have z0:=u.f_ bj H;have aR:=u.f_ bn H;have G:=O (show b++(jO (t.nw.l[j].o.fs.drop 0)++(jr ((hX t.nw.l).drop (j+1))++K))=D by
    have e:=y.out;rw[s5 (by rw[h5];exact T)]at e;rw[<-e];simp[hX])
   obtain⟨q,cg⟩:=mn_ (jr ((hX t.nw.l).drop (j+1))++K);rw[cg]at G;have bA:=O cg;generalize t.nw.l[j]=r at*;generalize t.nw.A=al at*;subst F;have I:=(F_ [] wr).alloc (.cells #[Y r.o.id,.slice r.A r.o.fs.length r.c] 56);obtain⟨bz,br⟩:=(P_ wr 56 #[Y r.o.id,.slice r.A r.o.fs.length r.c]).iA;have P:=hA.hF I;have S:=i.trans (.jD I);go_wp2_with fail;go_loopw [62] (λk wr=>∃(z:Nat) (b:QR),z<=r.o.fs.length/\k=Y z/\GA base wr g b/\Hid (b++(jO (r.o.fs.drop z)++q)=D)/\Fx base [119,2] w wr) (λk _=>r.o.fs.length-(intOf k).toNat)
   case atStart=>exact⟨0,b,L_ _,gn,P,G,S⟩
   obtain⟨z,b,hm,rfl,hA,y,i⟩:=hrel;have u:=i.gr w N (F_ [] w);have d:=i.size;by_cases h:z<r.o.fs.length
   .obtain⟨b3,bE,P,ck,aY⟩:=hv.at_ h;have z0:=u.f_ ck H;have aR:=u.f_ aY H;have G:=O (show(b++lr r.o.fs[z])++(jO (r.o.fs.drop (z+1))++q)=D by
     have e:=y.out;rw[s4 h]at e;rw[<-e];simp only[GE])
    have iF:=vn G.out;simp only[I_]at iF;generalize r.o.fs[z]=v at*;generalize r.A=an at*;subst P;have I:=(F_ [] wr).alloc (.cells #[.bool v.r,Y v.n] 38);obtain⟨bz,br⟩:=(P_ wr 38 #[.bool v.r,Y v.n]).iA;have E:=O (tG (v:=v) (hA.hF I) (ov I.size) (ov W.out));have S:=i.trans (.jD I);go_wp2_with (go_at_call 69;refine E.out.mono ?_;rintro e U⟨rfl,P,ax⟩);go_roundw
    case rel=>
     repeat(first|(refine⟨?_,rfl⟩;exact⟨z+1,_,X,gn,P,G,S.trans ax⟩)|apply Exists.intro)
    case measure=>exact mz
   go_wp2;go_roundw
   case rel=>exact⟨j+1,b,X,gn,hA,O (by
    have e:=y.out;rw[GG (l:=r.o.fs) X,<-bA.out]at e;exact e),i⟩
   case measure=>exact mz
  go_wp2;go_roundw
  case rel=>exact⟨m+1,b,X,gn,hA,O (by
   have e:=y.out;rw[GG (l:=hX t.nw.l) (by rw[h5];omega),<-bi.out]at e;exact e),i⟩
  case measure=>exact mz
 have e:=y.out;rw[GG X]at e;simp only[List.flatMap_nil,Hv]at e;subst e;have G:=O (rY hA W.out (ov i.size));go_wp2_with (go_at_call 70;refine G.out.mono ?_;rintro e U⟨F,z,rfl,L,r,B⟩);rw[ao.out];exact⟨F,z,rfl,L,r,B.gr w N u⟩
section
open Go.RowKit Go.Shelf
def xx{e:TypeId}(A:OA)(c:Nat)(ys:QR)(x:Int)(w:World)(h:Sl w e 1 A ys.length (zs ys))(r:ys.Pairwise (· < ·))(v:ys.length<=1000000000):
 Calls prog 113 #[.slice A ys.length c,Y x] w λe w'=>∃k:Int,e=.returned (.tuple #[Y k,.bool (decide (x∈ys))])/\J [] w w':=by
 rcases GR ys.length with b|b
 .have t:ys=[]:=Gh b;subst t;refine h6 λQ i=>?_;go_enter func113,ntmps113;go_wp2;go_loopw [7,8] (λm d wr=>m=Y 0/\d=Y 0/\J [] w wr) (λ_ _ _=>0)
  case atStart=>exact⟨rfl,gn,F_ _ _⟩
  obtain⟨rfl,rfl,q⟩:=hrel;go_wp2;rw[i.out];exact⟨0,rfl,q⟩
 obtain⟨q,t,rfl,hc⟩:=Sl.f_ h b;have m:=AnyG.slices_BinarySearch_int D_ q t ys.length c ys x w (H_ _) X (λj i=>by
  have:=hc j (Y ys[j]) (by simp[i]);rw[this];simp[List.getD,K_ i]) (by rw[Hj];exact r.imp λh=>by omega)
 refine m.mono ?_;rintro e w'⟨rfl,u,rfl⟩;exact⟨_,by rw[Hj,List.contains_eq_mem],(F_ [] w).drewN u⟩
def CV{v p:Nat}{A:OA}{c:Nat}{ys:QR}{l:QT}{W:World}(y:Bk W v 27 #[.slice A ys.length c])(z:Bk W s 4 #[.bool rb])(B:Ls W A ys)(L:ys.Pairwise (· < ·))(K:ys.length<=1000000000)(J:o9 p W l):
 Fu v s (λo=>decide (o.id∈ys) !=rb) p W:=by
 intro o D d w q;obtain⟨X,m,_⟩:=J;have i:∀{g t cs},Bk W g t cs->t≠56->Bk w g t cs:=λ{g t cs} h ht=>h.gr q (λC=>by
  rw[J_]at C;subst C;have:=h.symm.trans m;injection this with this;injection this with _ this;exact ht this)
 have u:=i y I;have k:=i z I;have j:Ls w A ys:=Sl.iq B m I q;refine h6 λQ H=>?_;obtain⟨F,g,T,V,b,E⟩:=box1 w 56 #[Y o.id,.slice D o.fs.length d];have N:=E.f_ 0;have U:=(u.hF b).f_ 0;have P:=(k.hF b).f_ 0;have G:=O (xx A c ys o.id F (Sl.hF j b) L K);have a:=k.hF b;clear y z B m i u k j q;go_enter func112,ntmps112;go_wp2_with (go_at_call 113;refine G.out.mono ?_;rintro e R⟨Z,rfl,r⟩;have S:=(a.hF r).f_ 0);rw[H.out];exact⟨rfl,b.trans r⟩
def uc(A:OA)(c:Nat)(f:Value)(w:World):Calls prog 156 #[.slice A 0 c,f] w λe w'=>e=.returned (Y (-1))/\w=w':=by
 refine h6 λQ b=>?_;go_enter func156,ntmps156;go_wp2;go_loopw [8] (λi wr=>i=Y 0/\w=wr) (λ_ _=>0)
 case atStart=>exact⟨gn,rfl⟩
 obtain⟨rfl,rfl⟩:=hrel;go_wp2;rw[b.out];exact Nn
def wF(A:OA)(c:Nat)(f:Value)(w:World):Calls prog 110 #[.slice A 0 c,f] w λe w'=>e=.returned (.slice A 0 c)/\w=w':=by
 refine h6 λQ b=>?_;go_enter func110,ntmps110;go_wp2_with (go_at_call 156;refine(uc A c f w).mono ?_;rintro e i⟨rfl,rfl⟩);rw[b.out];exact Nn
end
def uk{P:Program}{rest:QZ}{o:Oper}{a:Act}{w:World}{t:TypeId}{f:Nat}{v u:Value}(L:(Instr.field t v f).run P w=.ok u w)(h:wpList P ops Q rest (a.put o.dst u) w)(Nw:o.guard=none:=by rfl)(ho:o.op=.field t x f:=by rfl)(hx:a.eval x=v:=by rfl):wpList P ops Q (o::rest) a w:=
 wpList_plain Nw λ_ Nu=>by
  unfold Oper.wp;simp[execOp,ho,hx,L,Result.andThen];exact Nu _ _ h
def DN(v:Value)(w:World):(Instr.field 35 (.agg #[v]) 0).run prog w=.ok v w:=k_
structure HM(w:World)(A:OA)(l:QT):Prop where
 os:∃e,sC e w A l
 k8:∃E,q0 E w l
 len:l.length<=50000000
 zero:(0:Int)∉iQ (hX l)
 wf:∀x∈iQ (hX l),mH x
def HM.hF{w w':World}{A:OA}{l:QT}(h:HM w A l)(c:J [] w w'):HM w' A l:=
 ⟨let⟨e,b⟩:=h.os;⟨e,b.hF c⟩,let⟨e,b⟩:=h.k8;⟨e,b.hF c⟩,h.len,h.zero,h.wf⟩
structure TM(w:World)(A:OA)(ts:QB):Prop where
 row:∃e,Sl w e 48 A ts.length (ts.flatMap λt=>t.g_.toList)
 ye:∀t∈ts,rC w t
 few:(jM (ts.map Tk.p)).length<=1000000000
 len:ts.length<=1000000000
 lens:∀t∈ts,t.gs.l.length<=1000000000/\t.rs.l.length<=1000000000/\t.ws.l.length<=1000000000/\t.ds.l.length<=1000000000/\t.nw.l.length<=1000000000
def rC.hF{w w':World}{t:Tk}(h:rC w t)(c:J [] w w'):rC w' t:=
 ⟨let⟨e,b⟩:=h.gs;⟨e,Sl.hF b c⟩,let⟨e,b⟩:=h.rs;⟨e,Sl.hF b c⟩,let⟨e,b⟩:=h.ws;⟨e,Sl.hF b c⟩,let⟨e,b⟩:=h.ds;⟨e,Sl.hF b c⟩,let⟨e,b⟩:=h.nw;⟨e,b.hF c⟩,let⟨e,b⟩:=h.nr;⟨e,b.hF c⟩⟩
def TM.hF{w w':World}{A:OA}{ts:QB}(h:TM w A ts)(b:J [] w w'):TM w' A ts:=
 ⟨let⟨e,i⟩:=h.row;⟨e,Sl.hF i b⟩,λk c=>(h.ye k c).hF b,h.few,h.len,h.lens⟩
def TM.roots{w:World}{A:OA}{ts:QB}(h:TM w A ts)(c:Nat):Calls prog 28 #[.slice A ts.length c] w (jR (kH (jM (ts.map Tk.p))) w):=by
 obtain⟨e,b⟩:=h.row;exact zd A c ts w b h.ye h.few ⟨h.len,h.lens⟩
def HM.reach{w:World}{A:OA}{l:QT}(h:HM w A l)(c:Nat){e:TypeId}{b:OA}(d:Nat){rs:QR}(m:Sl w e 1 b rs.length (zs rs))(k:rs.length<=1000000000):Calls prog 35 #[.agg #[.slice A l.length c],.slice b rs.length d] w (jR (lk (hX l) rs) w):=by
 obtain⟨e,q⟩:=h.os;obtain⟨r,i⟩:=h.k8;exact xG A c l b d rs w q i h.len h.zero h.wf m k
def Ci{l:QR}:(kH l).length<=l.length:=lz _ (kG l).nodup λx b=>((kG l).mem x).1 b
def CF(h:QQ)(ts:QG):(mD h ts).length<=h.length:=by
 have:=lz (mD h ts) (l:=iQ h) (jF _ _).nodup λx b=>(((jF _ _).mem x).1 b).ids;simpa[iQ]using this
noncomputable def s8 (h:QQ) (ts:QG) (rb:Bool) (o:Ob):Bool:= !(decide (o.id∈mD h ts) !=rb)
def wm{hA TA:OA}{hc tc:Nat}{l:QT}{ts:QB}{w:World}(ak:HM w hA l)(Nt:TM w TA ts):
 Calls prog 73 #[.agg #[.slice hA l.length hc],.slice TA ts.length tc,.bool rb] w λe w'=>∃(A':OA) (c':Nat) (W:QT),e=.returned (.slice A' W.length c')/\hX W=(hX l).filter (s8 (hX l) (ts.map Tk.p) rb)/\Os w' A' W/\l5 w' W/\W.length<=l.length/\J [] w w':=by
 refine h6 λQ ao=>?_;obtain⟨z,g,aM,aV,hg,t,Nv,hB,bH⟩:=tP w 35 #[.slice hA l.length hc] 4 #[.bool rb];obtain⟨a,Y⟩:=mn_ (mD (hX l) (ts.map Tk.p));have bK:=O (show a.length<=50000000/\a.Pairwise (· < ·) from⟨by rw[<-Y];have:=CF (hX l) (ts.map Tk.p);have:=ak.len;rw[h5]at*;omega,by rw[<-Y];exact(jF _ _).lt⟩);have al:=O (show ∀o,s8 (hX l) (ts.map Tk.p) rb o= !(decide (o.id∈a) !=rb) from λo=>by unfold s8;rw[Y]);have aK:Hid (∀(w':World),J [] z w'->∀(am:OA) (d:Nat),Ls w' am (kH (jM (ts.map Tk.p)))->Calls prog 35 #[.agg #[.slice hA l.length hc],.slice am (kH (jM (ts.map Tk.p))).length d] w' (jR a w')):=O (λw' h am d hb=>by rw[<-Y];exact(ak.hF (Nv.trans h)).reach hc d hb (G_ (Ci) Nt.few));have bi:=O (λ(w':World)(h:J [] z w')=>(Nt.hF (Nv.trans h)).roots tc);generalize kH (jM (ts.map Tk.p))=rs at*;clear Y;go_enter func73,ntmps73;go_upto_region 1 with fail;go_cut [7] (λp a8=>∃(x:Nat) (A:OA) (an:Nat),p=q_ x/\Bk a8 x 27 #[.slice A a.length an]/\Ls a8 A a/\J [] z a8)
 case first=>
  refine hN (λw'=>w'.cell? (Z g 0)=some (.slice hA l.length hc)) 6 k_ ?_;obtain⟨aq,b6⟩:=nm_ z.drew;have K:J [] z aq:=by rw[b6];exact(F_ [] z).drew
  rw[<-b6];clear b6;have B:=hB.hF K;have ar:=K;refine mC (B.f_ 0) λm=>?_;refine ir 0 m ?_;refine ir 1 m ?_;refine Dy 2 4 (λi c=>?_) (λi c=>?_)
  .go_simp;go_at_call 28;refine(bi.out _ ar).mono ?_;unfold jR;rintro e w2⟨D,C,rfl,P, -,t⟩;have v:=ar.trans t;have j:=B.hF t;refine h4 c (j.f_ 0) λm=>?_;refine Dy 3 4 (λi c=>?_) (λi c=>?_)
   .go_simp;go_at_call 35;refine(aK.out _ v D C P).mono ?_;unfold jR;rintro e af⟨aY,c3,rfl,k, -,r⟩;have cR:=v.trans r;have bq:=j.hF r;refine h4 c (bq.f_ 0) λm=>?_;refine hY 4 λi c=>?_;go_simp;obtain⟨N,x,U,V,u,n⟩:=box1 af 27 #[n_];refine h4 c ((bq.hF ((F_ [] af).alloc _)).f_ 0) λm=>?_;have R:g≠x:=ov bq.lt;have aC:z.heap.size<=x:=ov cR.size;have G:=cR.trans u;have S:=bq.hF u;have au:=Sl.hF k u;rw[U,V]at*
    refine hY 5 λi c=>?_;have aT:=n.f_ 0;have bA:=n.hG 0;go_simp;have L:J [x] N (N.setCell (Z x 0) (.slice aY a.length c3)):=(F_ [x] N).setCell (p:=Z x 0) (.inl H) _;refine h4 c ((S.gr L (by rw[J_];exact R)).f_ 0) λm=>?_;refine hM k_ ?_ _;go_wp2;go_meet;exact⟨x,aY,c3,rfl,by simpa using n.hU 0 (.slice aY a.length c3),Sl.iq au n I L,G.hI L (λy hy=>.inr (by rw[J_]at hy;omega))⟩
   go_simp;obtain⟨N,x,U,V,u,n⟩:=box1 w2 27 #[n_];refine h4 c ((j.hF ((F_ [] w2).alloc _)).f_ 0) λm=>?_;clear c i;have R:g≠x:=ov j.lt;have aC:z.heap.size<=x:=ov v.size;have G:=v.trans u;have S:=j.hF u;have au:Ls N D _:=Sl.hF P u;rw[U,V]at*
   refine hY 3 λi c=>?_;go_simp;go_at_call 35;refine(aK.out _ G D C au).mono ?_;unfold jR;rintro e E⟨aY,c3,rfl,k, -,r⟩;have F:=G.trans r;have T:=S.hF r;have b:=n.hF r;refine h4 c (T.f_ 0) λm=>?_;clear c i;refine hY 5 λi c=>?_;have aT:=b.f_ 0;have bA:=b.hG 0;go_simp;have L:J [x] E (E.setCell (Z x 0) (.slice aY a.length c3)):=(F_ [x] E).setCell (p:=Z x 0) (.inl H) _;refine h4 c ((T.gr L (by rw[J_];exact R)).f_ 0) λm=>?_;clear c i;exact KB
  go_simp;obtain⟨N,x,U,V,u,n⟩:=box1 aq 27 #[n_];refine h4 c ((B.hF ((F_ [] aq).alloc _)).f_ 0) λm=>?_;clear c i;have R:g≠x:=ov B.lt;have aC:z.heap.size<=x:=ov ar.size;have G:=ar.trans u;have S:=B.hF u;rw[U,V]at*
  refine hY 2 λi c=>?_;go_simp;go_at_call 28;refine(bi.out _ G).mono ?_;unfold jR;rintro e w2⟨D,C,rfl,P, -,t⟩;have v:=G.trans t;have j:=S.hF t;have ah:=n.hF t;refine h4 c (j.f_ 0) λm=>?_;refine hY 3 λi c=>?_;go_simp;go_at_call 35;refine(aK.out _ v D C P).mono ?_;unfold jR;rintro e E⟨aY,c3,rfl,k, -,r⟩;have F:=v.trans r;have T:=j.hF r;have b:=ah.hF r;refine h4 c (T.f_ 0) λm=>?_;refine hY 5 λi c=>?_;have aT:=b.f_ 0;have bA:=b.hG 0;go_simp;have L:J [x] E (E.setCell (Z x 0) (.slice aY a.length c3)):=(F_ [x] E).setCell (p:=Z x 0) (.inl H) _;refine h4 c ((T.gr L (by rw[J_];exact R)).f_ 0) λm=>?_;exact KB
 obtain⟨x,A,an,rfl,B,hl,s⟩:=hcut;obtain⟨w1,U⟩:=nm_ wc;rw[<-U]at B hl s |-;clear U;have K:=Nv.trans s;have E:=ak.hF K;obtain⟨_,G⟩:=E.os;obtain⟨_,f⟩:=E.k8;have S:=hB.hF s;have ag:=bH.hF s;have ay:=S.f_ 0;have HD:=O (wE hA hc l w1 G f (ov ak.len));have bF:=ak.len;clear G f E S hB bH
 go_wp2_with fail;go_at_call 111;refine HD.out.mono ?_;rintro e w2⟨D,C,l2,rfl,u,az,T,aA,t⟩;have aD:=O u;have v:=K.trans t;have cz:=B.hF t;have bW:=ag.hF t;have P:=Sl.hF hl t;have be:l2.length=l.length:=by have:=Z_ List.length u;rwa [h5,h5]at this
 rcases GR l.length with c|c
 .have N:l=[]:=Gh c;subst N;have i:=O (wF D C (.func (.func 112) #[] #[q_ x,q_ aM]) w2);go_wp2_with (first|(refine uk (DN _ _) ?_)|go_at_call 110;refine i.out.mono ?_;rintro e af⟨rfl,rfl⟩);rw[ao.out];exact⟨D,C,[],rfl,by simp[hX],⟨rfl,λh=>Gc h (Nat.lt_irrefl 0)⟩,λaE m=>(by cases m),H_ _,v⟩
 obtain⟨p,rfl,ax,i⟩:=T c;have N:=CV cz bW P bK.out.2 (ov bK.out.1) i;have ap:=O (wG N i be X az);clear u T N;go_wp2_with (first|(refine uk (DN _ _) ?_)|go_at_call 110;refine ap.out.mono ?_;rintro e af⟨V,rfl,k,ai,r⟩;have M:=O k;clear k);rw[ao.out];have R:V.Sublist l2:=by rw[M.out];exact List.filter_sublist
 refine⟨j_ p,C,V,rfl,?_,ai,λaE m=>?_,ov R.length_le,v.hI r (λy hy=>.inr (by rw[J_]at hy;have:=K.size;omega))⟩;rw[show(hX l).filter (s8 (hX l) (ts.map Tk.p) rb)=(hX l).filter (λo=> !(decide (o.id∈a) !=rb)) from List.filter_congr λo _=>al.out o,<-aD.out,M.out];unfold hX;rw[List.filter_map];rfl;have q:=aA aE (R.subset m);exact⟨i.vs r q.1,q.2⟩
def FL.j5{t:jb}(h:FL t.nw)(c:Cl):FL (j5 t c).nw:=by
 unfold Go.Proofs.YtenbhdilndfaeaaGreat.j5;split;exact h;intro o m;obtain⟨r,k,e⟩:=Hu m;have i:r<t.nw.length:=zu k;have b:=h _ (N_ i);rw[G7]at e;split at e
 .rw[<-e];unfold uC;dsimp only;split
  .rw[Gl];exact b
  exact b
 rw[<-e];exact b
def FL.jv{t t':jb}(h:FL t.nw){id f:Int}(b:jv t view id f=some t'):FL t'.nw:=by
 unfold Go.Proofs.YtenbhdilndfaeaaGreat.jv at b;split at b;injection b with b;subst b;exact h;split at b
 .cases b
 split at b
 .cases b
 injection b with b;subst b;refine FL.j5 ?_ _;exact h
def B_{t t':jb}{d:Dl}(b:take t d=some t'):t'.nw=t.nw:=by
 unfold take at b;split at b;cases b
 split at b
 .injection b with b;subst b
  rfl
 split at b
 .cases b
 injection b with b;subst b;rfl
def s7:∀(l:QD) (t:jb) (rs ws:QX),(jP t rs ws l).1.nw=t.nw
 |[],_,_,_=>rfl
 |d::l,t,rs,ws=>by
  unfold jP;cases b:take t d with
  |none=>exact s7 l t rs ws
  |some t'=>exact(s7 l t' _ _).trans (B_ b)
def FL.j8{view:QQ}:∀(l:QX) {t t':jb},FL t.nw->j8 view t l=some t'->FL t'.nw
 |[],t,t',h,i=>by injection i with i;subst i;exact h
 |c::l,t,t',h,i=>by
  unfold Go.Proofs.YtenbhdilndfaeaaGreat.j8 at i;cases b:qk view t c with
  |none=>rw[b]at i;cases i
  |some k=>
   rw[b]at i;refine FL.j8 l ?_ i;unfold qk at b;split at b;injection b with b;subst b;exact h;split at b
   .exact h.jv b
   injection b with b;subst b;exact h
def FL.kx{view:QQ}:∀(l:QX) {t t':jb},FL t.nw->kx view t l=some t'->FL t'.nw
 |[],t,t',h,i=>by injection i with i;subst i;exact h
 |c::l,t,t',h,i=>by
  unfold Go.Proofs.YtenbhdilndfaeaaGreat.kx at i;cases b:r7 view t c with
  |none=>rw[b]at i;cases i
  |some m=>
   rw[b]at i;refine FL.kx l ?_ i;unfold r7 at b;cases k:Go.Proofs.YtenbhdilndfaeaaGreat.jv t view c.id c.f with
   |none=>rw[k]at b;cases b
   |some Q=>rw[k]at b;injection b with b;subst b;exact(h.jv k).j5 _
def FL.app{a b:QQ}(h:FL a)(k:FL b):FL (a++b):=λo c=>(W_.1 c).elim (h o) (k o)
def FL.record{t t':jb}{e:p7}(h:FL t.nw)(r:FL e.nw)(b:record t view e=some t'):FL t'.nw:=by
 unfold Go.Proofs.YtenbhdilndfaeaaGreat.record at b;dsimp only at b;have q:=s7 e.ds t e.rs e.ws;generalize jP t e.rs e.ws e.ds=a at*
 cases c:Go.Proofs.YtenbhdilndfaeaaGreat.j8 view a.1 a.2.1 with
 |none=>rw[c]at b;cases b
 |some k=>
  rw[c]at b;dsimp only at b;have m:=FL.j8 _ (by rw[q];exact h) c;cases i:Go.Proofs.YtenbhdilndfaeaaGreat.kx view {k with nw:=k.nw++e.nw} a.2.2 with
  |none=>rw[i]at b;cases b
  |some Q=>rw[i]at b;injection b with b;subst b;show FL Q.nw;refine FL.kx _ ?_ i;exact m.app r
def FL.step{c:QS}{hH hC:Int}{t:jb}(m:ia c hH hC=true)(h:FL t.nw):FL (je c hH hC d t view).nw:=by
 have i:=vk m t.pc t.r (jq t view) ((t.run+1)*1048576+t.nw.length);unfold je;dsimp only;generalize lx c hH hC t.pc t.r (jq t view) ((t.run+1)*1048576+t.nw.length)=e at*;split
 .exact h
 split
 .exact h
 cases k:Go.Proofs.YtenbhdilndfaeaaGreat.record t view e with
 |none=>exact h
 |some x=>
  have b:=h.record i k;dsimp only;split
  .exact b
  split<;>exact b
def uO{l:QS}{hH hC hQ run:Int}{ip:Bool}:FL (jm l hH hC hQ run ip).1.nw:=by
 rw[uP];intro o b;cases b
def w7.fl{l:QS}{hH hC:Int}{h:QQ}{run:Int}{n:Nat}{ts:QG}(q:ia l hH hC=true)(m:w7 l hH hC d h run n ts):∀t∈ts,FL t.nw:=by
 induction m with
 |hQ ts r i=>
  intro t b;obtain⟨k,c,rfl⟩:=Hu b;obtain⟨x,u,_,e⟩:=i k c;rw[e];exact uO
 |step k c r u i=>
  intro t b;rcases Gw b with b|rfl
  exact i t b;exact(i _ (N_ c)).step q
def mQ(l:QX):(j3 l).length<=2*l.length:=by
 induction l with
 |nil=>simp[j3]
 |cons c l b=>
  unfold j3 at b |-;simp only[Gi,I_,Y_]
  have:(lr c.v).length<=1:=by unfold lr;split<;>simp
  omega
def oR:∀{h:QQ},FL h->(jr h).length<=70*h.length
 |[],_=>by simp[jr]
 |o::h,b=>by
  have c:=oR (h:=h) λx i=>b x (Gj _ i);have k:=b o GM;have m:(jO o.fs).length<=o.fs.length:=by unfold jO;rw[Gg];exact GC _ _
  unfold jr at c |-;simp only[Gi,I_,Y_];omega
def s3{t:jb}(c:FL t.nw)(b:t.sm 500000):(lj t).length<=38500000:=by
 have v:=mQ t.gs;have y:=mQ t.rs;have z:=mQ t.ws;have u:=oR c;have k:=b.gs;have i:=b.rs;have m:=b.ws;have q:=b.nw;have r:=b.ds;unfold lj;simp only[I_,Gg];omega
def ri:∀{ts:QG} {n:Nat},(∀t∈ts,(lj t).length<=n)->(jM ts).length<=1+ts.length*n:=by
 intro ts n h;unfold jM;rw[Y_]
 suffices (ts.flatMap lj).length<=ts.length*n by omega
 induction ts with
 |nil=>simp
 |cons t ts b=>
  have:=b λx c=>h x (Gj _ c);have:=h t GM;simp only[Gi,I_,Y_,Hp];omega
def x8.ne{run n:Int}(h:x8 run n):n≠0:=by
 rcases h with h|h|⟨k,j,b,_,c,_,i⟩<;>omega
def Md.hm{m:Md}{w:World}(i:qr w m)(E:zT m):HM w m.s.h.A m.s.h.l:=by
 obtain⟨y,run,v,hc,_⟩:=E.cm;have b:=(hc.cb E.val).1.h;have e:m.s.p.h=hX m.s.h.l:=rfl;have j:=(hc.ci E.val (kn E.val).2.1).2;have c:=hc.gX Eg E.val X;rw[e]at b j c;rw[h5]at b;refine⟨⟨_,i.s.h.os.e⟩,⟨_,i.s.h.k8.e⟩,X,λr=>(j.old 0 r).ne rfl,λx q=>?_⟩;obtain⟨o,k,rfl⟩:=Ge.1 q;obtain⟨t,u⟩:=c.ids o k;exact WalkArith.wf_i64 X
def Md.tm{m:Md}{w:World}(c:qr w m)(E:zT m):TM w m.tA m.ts:=by
 obtain⟨D,run,C,hc,cA⟩:=E.cm;have hl:=(kn E.val).2.1;have b:m.ts.length<=16/\∀t∈m.ts,FL t.p.nw/\t.p.sm 500000:=JZ;have r:=ri (ts:=m.ts.map Tk.p) (n:=38500000) λt ht=>by
  obtain⟨k,i,rfl⟩:=Ge.1 ht;exact s3 (b.2 k i).1 (b.2 k i).2
 rw[Gg]at r;refine⟨⟨_,c.ts.row⟩,λt ht=>(c.ts.ye t ht).e,ov b.1,by have:=b.1;omega,λt ht=>?_⟩;have h:=(b.2 t ht).2;have e:t.p.nw.length=t.nw.l.length:=h5 _;have v:t.gs.l.length<=500000:=h.gs;have u:t.rs.l.length<=500000:=h.rs;have y:t.ws.l.length<=500000:=h.ws;have z:t.ds.l.length<=500000:=h.ds;have B:=h.nw;omega
