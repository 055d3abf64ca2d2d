import Derived.Test.YtenbhdilndfaeaaGreatR33
import Derived.Test.YtenbhdilndfaeaaGreatR35
import Derived.Carry
import Derived.Lib.SlKeysI
import Derived.Lib.SlMapFilter
import Derived.Maps.RangeWalk
set_option maxRecDepth 100000
set_option maxHeartbeats 0
set_option linter.all false
namespace Go.Proofs.YtenbhdilndfaeaaGreat
open Go.RowKit Go.Proofs.Tryz
variable{G:Prop}{D:DataW Unit}{P:Int->Prop}{ys:List Int}{w':World}{M:Nat}{e0:TypeId}{E:Rw->TypeId}(U:Option Addr)(hc:Nat)(h:List Ob)
def JQ(h:G:=by
 go_wp2;go_roundw
 case rel=>exact⟨j+1,n,D,by omega,by go_num,C,O (by have:=h.out;omega),O (HD.out.congr λx=>by rw[y.out,a6.out];simp),aL⟩
 case measure=>simp[rV];omega):G:=h
def KT(h:G:=by
 unfold om;rintro e T⟨A,c,rfl,hl,cC,af⟩;go_wp2;rw[aI.out];exact⟨A,c,rfl,hl,cC,(MR.trans MP).trans af⟩):G:=h
def KY(h:G:=by
 go_roundw
 case rel=>exact⟨i+1,n+1,_,by omega,by go_num,V,by omega,L,bM⟩
 case measure=>simp[rV];omega):G:=h
def Lw(h:G:=by
 go_wp2
 go_ret2
 exact⟨A3 (by rw[D.out,O_ aV.out]) (by rw[a6.out,O_ aV.out]),rfl⟩):G:=h
def Ly(h:G:=by
 have HG:=O hg;clear hg;go_wp2;go_ret;exact⟨iw (by rw[HG.out];rfl),hg1.alloc _⟩):G:=h
section
open Go.RowKit Go.Maps
structure nT(D:DataW Unit)(P:Int->Prop):Prop where
 pu:∃es,D=.map es/\es.Pairwise (λp q=>p.1≠q.1)/\∀p∈es,∃x,p.1=.int .i64 x
 has:∀x,Maps.has D (.int .i64 x)=true↔P x
def nT.empty:nT (.map []) (λ_=>False):=⟨⟨[],rfl,List.Pairwise.nil,λb a=>by cases a⟩,λc=>by simp[Maps.has]⟩
def nT.congr{P':Int->Prop}(h:nT D P)(a:∀x,P x↔P' x):nT D P':=⟨h.pu,λx=>(h.has x).trans (a x)⟩
def nT.put(h:nT D P)(n:Int)(d:DataW Unit):nT (D.put (.int .i64 n) d) (λx=>P x∨x=n):=by
 obtain⟨c,rfl,a,k⟩:=h.pu;have f:Maps.Tidy (DataW.map c):=⟨c,rfl,a⟩
 have g:WideAt.IsKeyLit (.int .i64 n):=by simp[WideAt.IsKeyLit]
 obtain⟨i,j,E⟩:=f.put g d;refine⟨⟨i,j,E,λe a=>?_⟩,λx=>?_⟩
 .have b:=by
   have:DataW.map i=.map (DataW.insert (.int .i64 n,d) (c.filter λe=> !e.1.sameKey (.int .i64 n))):=j.symm
   injection this
  rw[b]at a
  rcases N_.1 ((WideShapes.insert_perm _ _).mem_iff.1 a)with rfl|a
  .exact⟨n,rfl⟩
  .exact k e (F5.1 a).1
 .by_cases b:x=n
  .subst b;simp[Maps.has_put_same f.isMap g]
  .rw[Maps.has_put_other (by intro h;injection h with _ h;exact b h)];rw[h.has];simp[b]
def nT.del(h:nT D P){pd:Lit->DataW Unit->Bool}{q:Int->Bool}(V:∀x d,pd (.int .i64 x) d=q x):nT (Lib.deleteFuncD pd D) (λx=>P x/\q x=false):=by
 obtain⟨i,rfl,b,j⟩:=h.pu;refine⟨⟨_,rfl,b.filter _,λa b=>j a (F5.1 b).1⟩,λx=>?_⟩;rw[<-h.has]
 show(i.filter λa=> !pd a.1 a.2).any (λa=>a.1.sameKey (.int .i64 x))=true↔i.any (λa=>a.1.sameKey (.int .i64 x))=true/\_
 rw[HF,HF];constructor
 .rintro⟨a,b,c⟩;obtain⟨g,e⟩:=F5.1 b;have f:=WideAt.sameKey_eq c;rw[f,V]at e;exact⟨⟨a,g,c⟩,by simpa using e⟩
 .rintro⟨⟨a,g,c⟩,e⟩;have f:=WideAt.sameKey_eq c;exact⟨a,F5.2 ⟨g,by rw[f,V,e];rfl⟩,c⟩
def nT.perm(h:nT D P)(hy:Asc ys P):ys.Perm (intKeys D):=by
 obtain⟨d,rfl,c,b⟩:=h.pu
 exact perm_intKeys c b hy.nodup λa=>(hy.mem a).trans (h.has a).symm
def nT.size(h:nT D P)(hy:Asc ys P):Maps.size D=ys.length:=by
 have b:=(h.perm hy).length_eq;obtain⟨a,rfl,d,c⟩:=h.pu;rw[b]
 show a.length=(a.map _).length
 rw[F6]
def Asc.sorted{a:List Int}(h:Asc ys P)(b:a.Perm ys):a.mergeSort leI=ys:=by
 rw[mergeSort_of_perm_i b];exact List.mergeSort_of_pairwise (h.lt.imp λh=>by simp only[leI,Gx];omega)
end
section
open Go.RowKit Go.Maps
def rV:Value->Int
 | .int _ q=>q
 |_=>0
def rE(w:World)(M n:Nat)(D:DataW Unit):Prop:=w.ownsMap prog 2 (plainElem prog 4) M n D
def rE.kept{w:World}{n:Nat}{L:List Nat}(h:rE w M n D)(g:J L w w')(j:M∉L):rE w' M n D:=by
 have c:=World.ownsMap.lt h;obtain⟨d,b,f,a,i,e⟩:=h;exact⟨d,b,(g.block M c j).trans f,a,i,e⟩
def rE.put{w:World}{n:Nat}(h:rE w M n D)(g:n<9223372036854775807){x:Int}(f:lk x):
 ∃w',(Instr.mapUpdate 106 (.map (some M)) (.int .i64 x) (.bool true)).run prog w=.ok () w'/\rE w' M (n+1) (D.put (.int .i64 x) (.lit (.bool true)))/\J [M] w w':=by
 obtain⟨w',c,d,e⟩:=World.ownsMap.update h (int_keyed underlying2) underlying106 (by unfold maxLen;omega) (keyOf_int_mk underlying2 (a:=x) f) (plainElem_bool underlying4 true);exact⟨w',c,d,(H [M] w).grown e (λi b=>by injection b with b;subst b;exact .inl s_)⟩
def DN(P:Int->Prop)(w:World)(e:Ending)(w':World):Prop:=∃(M n:Nat) (D:DataW Unit),e=.returned (.map (some M))/\w.heap.size<=M/\rE w' M n D/\(n:Int)<=1000000000000000000/\nT D P/\J [] w w'
def uS(l:List Rw)(w:World)(ar:xh e0 w U l)(hR:uA E w l)(hn:l.length<=100000000)(Q:∀x∈kc (hU l),lk x):
 Calls prog 57 #[.agg #[.slice U l.length hc]] w (DN (· ∈kc (hU l)) w):=by
 refine ig λad aI=>?_
 have ay:= @run_makeMap prog;obtain⟨i,ae,be,k,u,I⟩:=box1 w 35 #[.slice U l.length hc];have v:rE (i.alloc (.map #[] 0)) i.heap.size 0 (.map []):=World.ownsMap_made i prog 2 (plainElem prog 4);have bl:=O Q;clear Q;have F:=u.alloc (.map #[] 0);have z:=I.g_ ((H [] i).alloc (.map #[] 0));have R:=z.f_ 0
 go_enter func57,ntmps57
 go_wp2;obtain⟨ag,r⟩:=nm_ (i.alloc (.map #[] 0));obtain⟨M,s⟩:=nm_ i.heap.size;rw[<-r,<-s]at v;rw[<-r]at F z R
 have Z:w.heap.size<=M:=by rw[s];exact u.size
 have ah:M≠ae:=by have:=I.lt;omega
 try rw[<-r]
 try rw[<-s]
 clear r s ay I u
 have ai:M∉([]:List Nat):=by simp
 go_loopw [12] (λg wr=>∃(a n:Nat) (D:DataW Unit),a<=l.length/\g=.int .i64 a/\rE wr M n D/\Hid ((n:Int)<=a*1000000000)/\Hid (nT D (· ∈kc ((hU l).take a)))/\J [] w wr) (λg _=>l.length-(rV g).toNat)
 case atStart=>exact⟨0,0,.map [],P_ _,rfl,v,O s_,O (nT.empty.congr λx=>by simp[kc]),F⟩
 case round=>
  clear v F R z;obtain⟨a,n,D,hi,rfl,e,d,HD,k⟩:=hrel
  by_cases q:a<l.length
  .obtain⟨ak,off,P,W,Y⟩:=ar.at_ q;subst P;obtain⟨K,cF⟩:=hR _ (M_ q)
   have bK:=O (show kc ((hU l).take (a+1))=kc ((hU l).take a)++pM l[a].o.fs by
    have aM:a<(hU l).length:=by rw[hZ];exact q
    rw[xR aM]
    simp[hU])
   have aq:=O (show ∀c∈l[a].o.fs,isRef c=true->lk c.n from λc K hr=>by
    refine bl.out _ ?_;unfold kc pM hU;rw[Ha]
    exact⟨l[a].o,Z_.2 ⟨l[a],M_ q,rfl⟩,Z_.2 ⟨c,F5.2 ⟨K,hr⟩,rfl⟩⟩)
   generalize l[a]=b at*;have ax:=k.f_ W s_;have c1:=k.f_ Y s_;clear W Y;have aL:=(H [] wr).alloc (.cells #[.int .i64 b.o.id,.slice b.A b.o.fs.length b.c] 56);have C:=e.kept aL ai;have N:=k.trans aL;have al:=Q_ wr 56 #[.int .i64 b.o.id,.slice b.A b.o.fs.length b.c];obtain⟨hq0,hq1⟩:=al.iM;clear e aL
   go_wp2_with fail
   generalize wr.alloc (.cells #[.int .i64 b.o.id,.slice b.A b.o.fs.length b.c] 56)=an at*;generalize wr.heap.size=ao at*
   go_loopw [19] (λg wr=>∃(j n:Nat) (D:DataW Unit),j<=b.o.fs.length/\g=.int .i64 j/\rE wr M n D/\Hid ((n:Int)<=a*1000000000+j)/\Hid (nT D (· ∈kc ((hU l).take a)++pM (b.o.fs.take j)))/\J [] w wr) (λg _=>b.o.fs.length-(rV g).toNat)
   case atStart=>exact⟨0,n,D,P_ _,by go_num,C,O (by have:=d.out;omega),O (HD.out.congr λx=>by simp[pM]),N⟩
   case round=>
    clear C N hq0 hq1 al d HD;obtain⟨j,n,D,hj,rfl,e,d,HD,m⟩:=hrel
    by_cases B:j<b.o.fs.length
    .obtain⟨b2,am,ap,T,V⟩:=K.at_ B;have y:=O (xQ B);have av:=O (aq.out _ (M_ B));have h:=O (show((n+1:Nat):Int)<=a*1000000000+(j+1:Nat) by have:=d.out;omega)
     have aw:n<9223372036854775807:=by have:=d.out;omega
     generalize b.o.fs[j]=c at*;have p0:=m.f_ T s_;have p1:=m.f_ V s_;clear T V;have aL:=m.alloc (.cells #[.bool c.r,.int .i64 c.n] 38);have C:=e.kept ((H [] wr).alloc (.cells #[.bool c.r,.int .i64 c.n] 38)) ai
     cases f:c.r with
     |false=>
      rw[f]at p0 C aL;have a6:=O (show isRef c=false by unfold isRef;rw[f];rfl);clear f e;exact JQ
     |true=>
      rw[f]at p0 C aL
      by_cases p:c.n=0
      .have L:(c.n !=0)=false:=by simp[p]
       have a6:=O (show isRef c=false by unfold isRef;rw[L,Bool.and_false]);clear f p e;exact JQ
      .have L:(c.n !=0)=true:=by simp[p]
       have a6:=O (show isRef c=true by unfold isRef;rw[f,L];rfl);obtain⟨az,MT,aA,S⟩:=C.put aw (av.out a6.out);have bM:=aL.hA S (by simpa using Z);have aB:=O ((HD.out.put c.n (.lit (.bool true))).congr (P':=(· ∈kc ((hU l).take a)++pM (b.o.fs.take (j+1)))) λx=>by rw[y.out,a6.out,O_ rfl,<-Ge,T_ (t:=[c.n]),R_]);have b7:=h.out;clear f p e C aL S d HD;go_wp2;go_roundw
       case rel=>exact⟨j+1,n+1,_,by omega,by go_num,aA,O b7,aB,bM⟩
       case measure=>simp[rV];omega
    .go_wp2;go_roundw
     case rel=>exact⟨a+1,n,D,by omega,by go_num,e,O (by have:=d.out;omega),O (by rw[bK.out];exact HD.out.congr λx=>by rw[FK (l:=b.o.fs) X]),m⟩
     case measure=>simp[rV];omega
  .go_wp2;rw[aI.out];have b:=HD.out;rw[FK (by rw[hZ];omega)]at b;have c:=d.out;clear d;exact⟨M,n,D,rfl,Z,e,by omega,b,k⟩
end
section
open Go.RowKit Go.Maps Go.Sort Go.Shelf
def sortsA(f:Nat):AnyZI.SortsIn prog sortedA_ren Fence.wide f:=
 ⟨λk g b c a j d e=>callsIn_wide.2 (AnyM.slices_Sort_int sortA k g b c a j d e),
  λi b a=>callsIn_wide.2 (AnyM.slices_Sort_int_none sortA i b a)⟩
def xH(b g:Nat)(c:DataW Unit)(R:Value->Option (DataW Unit × List MemPlace))(w:World)(m:w.ownsMap prog 2 R b g c)(i:Maps.size c<=maxLen)(f:Maps.size c*8<=140737488355328):
 Calls prog 61 #[.map (some b)] w λe w'=>∃(v:Value) (a:List Int),e=.returned v/\a.Perm (intKeys c)/\
  w'.ownsRow w.heap.size 2 1 v a.length ((a.mergeSort (λx y=>decide (x<=y))).map encZ)/\(v=n_↔a=[])/\Below w.heap.size w w':=by
 refine(callsIn_wide (n:=6)).1 ?_;have z:=m.lt
 have F:SeqGives Fence.wide 2 prog 153 #[q_ w.heap.size] encZ (λa=>a.Perm (intKeys c)) (Maps.size c) (w.alloc (.cells #[.map (some b)] 106)):=
  AnyZI.keys_gives (ρ:=keysA_ren) {keysA with} Fence.wide _ trivial rfl X w.heap.size b g c _ s_ s_ (by
   obtain⟨t,q,k,s,C,u⟩:=m
   exact⟨t,q,(Below.heap_alloc _ _ b z).trans k,s,C,u⟩)
 have h:∀j d,CallsIn Fence.wide 5 prog 105 #[.map j] d λe w'=>e=.returned (.func (.func 153) #[] #[q_ d.heap.size])/\w'=d.alloc (.cells #[.map j] 106):=λj d=>AnyZI.keys_in keysA Fence.wide 5 trivial rfl j d
 have o:=AnyZI.sorted_in sortedA Fence.wide 5 trivial trivial trivial trivial rfl X (sortsA _) (enters_of func107 k_ rfl) 153 #[q_ w.heap.size] trivial (enters_of func153 k_ rfl) _ _ i f _ F
 change CallsIn _ _ prog 104 _ _ _ at o
 have l:Fence.wide.fn 105:=trivial;have I:Fence.wide.fn 104:=trivial;refine callsIn_of_wp func61 rfl trivial ?_ rfl;simp only[ntmps61,List.size_toArray,FJ,Gh,Nat.reduceAdd,Nat.reduceSub,Array.replicate_succ,Array.replicate_zero,List.push_toArray,List.append_toArray,FU,Hs]
 gi_wp2_with (first
  |(gi_at_call 105;refine(h _ _).mono ?_;rintro e w'⟨rfl,rfl⟩)
  |(gi_at_call 104;refine o.mono ?_;rintro e w'⟨v,a,rfl,p,r,H,k⟩))
 go_ret;exact⟨v,a,rfl,p,ownsRow_base_a r s_,H,((Below.refl _ w).alloc (H_ _) _).trans (k.mono s_)⟩
def yH:Keyed prog 2:=int_keyed underlying2
def J.BE{w:World}(h:J [] w w'):w.grownBy w' none:=h.uJ none
def J.qk{w:World}(h:w.grownBy w' (some M)):J [M] w w':=(H [M] w).grown h (λb a=>by injection a with a;subst a;exact .inl s_)
def pH{n:Nat}{w:World}(q:rE w M n D)(hD:nT D P)(hy:Asc ys P)(u:ys.length<=50000000):
 Calls prog 61 #[.map (some M)] w (om ys w):=by
 have e:=hD.size hy;refine(xH M n D (plainElem prog 4) w q (by rw[e];unfold maxLen;omega) (by rw[e];omega)).mono ?_;rintro s w'⟨m,c,rfl,f,a,_,j⟩;have d:=hy.sorted (f.trans (hD.perm hy).symm)
 have iG:c.length=ys.length:=by rw[<-d,List.length_mergeSort]
 rw[show(c.mergeSort λo p=>decide (o<=p))=ys from d,iG]at a
 obtain⟨A,b,rfl⟩:∃A b,m=.slice A ys.length b:=by
  rcases a.2 with⟨i,g⟩|⟨t,v,r,k,_⟩
  .exact⟨none,0,by rw[g];exact i⟩
  .exact⟨_,_,k⟩
 exact⟨A,b,rfl,Sl.iQ a,jk a,J.Bn j []⟩
def wJ{tb:TypeId}(A:Option Addr)(c:Nat)(l:List Int)(n:Int)(w:World)(h:Ns w tb A l)(v:l.length<=1000000000):
 Calls prog 106 #[.slice A l.length c,Y n] w λe w'=>∃i:Int,e=.returned (Y i)/\decide (0<=i)=decide (n∈l)/\w=w':=by
 refine ig λr m=>?_
 go_enter func106,ntmps106
 go_wp2
 go_loop [8] (λd=>∃a:Nat,a<=l.length/\d=Y a/\n∉l.take a) (λd=>l.length-(rV d).toNat)
 case atStart=>exact⟨0,P_ _,by go_num,by simp⟩
 case round=>
  obtain⟨a,u,rfl,G⟩:=hrel;have E:=O G;clear G
  by_cases f:a<l.length
  .obtain⟨t,x,U,hc⟩:=h.at_ f;subst U;have s:=hc;have p:=O (show n=l[a]->n∈l from λe=>e▸M_ f)
   have o:=O (show n≠l[a]->n∉l.take (a+1) from λb=>by
    rw[X_ f,T_];rintro(j|j)
    .exact E.out j
    .exact b (R_.1 j))
   generalize l[a]=k at*
   by_cases b:n=k
   .have q:(n==k)=true:=by simp[b]
    have g:=O (p.out b);clear b;go_wp2;rw[m.out];exact⟨a,rfl,by rw[FX g.out,FX X],rfl⟩
   .have q:(n==k)=false:=by simp[b]
    have g:=O (o.out b);clear b;go_wp2;go_round
    case rel=>exact⟨a+1,by omega,by go_num,g.out⟩
    case measure=>simp[rV];omega
  .go_wp2;rw[m.out]
   have b:=by have:=E.out;rwa [FK X]at this
   exact⟨-1,rfl,by rw[GH b];rfl,rfl⟩
def ua{tb:TypeId}(A:Option Addr)(c:Nat)(l:List Int)(n:Int)(w:World)(h:Ns w tb A l)(f:l.length<=1000000000):
 Calls prog 63 #[.slice A l.length c,Y n] w λe w'=>e=.returned (.bool (decide (n∈l)))/\w=w':=by
 refine ig λg b=>?_
 have d:=O (wJ A c l n w h f)
 go_enter func63,ntmps63
 go_wp2_with (go_at_call 106;refine d.out.mono ?_;rintro e w'⟨i,rfl,a,rfl⟩;have E:=O a;clear a)
 all_goals
  rw[b.out,<-E.out];exact⟨rfl,rfl⟩
end
section
open Go.RowKit Go.Maps Go.Sort Go.Shelf
def wR(l:List Rw)(y:Int)(g:Value)(a:Nat)(W:World)(f:Bk W a 35 #[.slice U l.length hc])(b:xh e0 W U l)(c:uA E W l)(d:l.length<=1000000000):
 Calls prog 59 (#[Y y,g]++ #[q_ a]) W λe w'=>e=.returned (.bool (iU (hU l) y).isSome)/\J [] W w':=by
 have i:=f.f_ 0
 go_enter func59,ntmps59
 go_wp2_with fail
 go_at_call 60
 refine(zL U hc l y W b c d).mono ?_;rintro e j(⟨hg,rfl,hg1⟩|⟨o,A1,c1,hg,rfl,hv1,hg1⟩)
 .exact Ly
 .exact Ly
def there(l:List Ob)(k:Lit)(_:DataW Unit):Bool:=match k with
 | .int _ k=>(iU l k).isSome
 |_=>false
def zU(l:List Rw)(w:World)(a:xh e0 w U l)(d:uA E w l)(R:l.length<=100000000)(r:B0 (kc (hU l)))(j:∀x∈kc (hU l),lk x):
 Calls prog 15 #[.agg #[.slice U l.length hc]] w (om (va (hU l)) w):=by
 refine ig λad aI=>?_
 obtain⟨z,b,be,hg,MR,o⟩:=box1 w 35 #[.slice U l.length hc];have N:(va (hU l)).length<=50000000:=G_ (F7 _ _) (q0 r (λx S=>S))
 have C:Asc (va (hU l)) (λx=>x∈kc (hU l)/\(iU (hU l) x).isSome=false):=by
  have h:=lu (kc (hU l));refine⟨h.lt.filter _,λx=>?_⟩;unfold va;rw[F5,h.mem]
  cases iU (hU l) x<;>simp
 have I:=O (uS U hc l z (a.g_ MR) (d.g_ MR) R j);have H:=o.f_ 0
 go_enter func15,ntmps15
 go_wp2_with fail
 go_at_call 57
 refine I.out.mono ?_;unfold DN;rintro e f⟨M,s,D,rfl,n,Y,bj,p,g⟩;have u:∀m w,(callFunc 59 m).run prog w=.ok (.enter 59 m) w:=enters_of func59 k_ rfl
 have t:Calls prog 58 #[.map (some M),.func (.func 59) #[] #[q_ b]] f (λe w'=>e=.returned (.tuple #[])/\w'.ownsMap prog 2 (plainElem prog 4) M s (Lib.deleteFuncD (there (hU l)) D)/\f.grownBy w' (some M)):=
  AnyDf.maps_DeleteFunc delN yH (plainElem prog 4) (there (hU l)) 59 #[q_ b] M s D f u Y (λF ae W ag MO Z G Q _=>by
   obtain⟨x,rfl,rfl,_⟩:=Maps.keyOf_int_inv underlying2 Q;have k:=g.hA (J.qk G) (by simpa using n);have i:=MR.trans k
   exact(wR U hc l x W b F (o.g_ k) (a.g_ i) (d.g_ i) X).mono λe w' h=>⟨h.1,h.2.BE⟩)
 have v:=O t;have L:=p.del (pd:=there (hU l)) (q:=λx=>(iU (hU l) x).isSome) (λx ai=>rfl);clear t a d r j p H
 go_wp2_with fail
 go_at_call 58
 refine v.out.mono ?_;rintro e K⟨rfl,V,y⟩;have MP:=g.hA (J.qk y) (by simpa using n)
 go_wp2_with fail
 go_at_call 61
 refine(pH (w:=K) V L C N).mono ?_;exact KT
end
section
open Go.RowKit Go.Maps Go.Sort Go.Shelf
def sT{n:Int}(h:lk n):n<=9223372036854775807:=by
 have h:(Lit.int .i64 n).wf=true:=h;simp[Lit.wf,IntKind.min,IntKind.max,IntKind.signed,IntKind.bits]at h;omega
def vl{n:Int}(h0: -9223372036854775808<=n)(a:n<=9223372036854775807):lk n:=WalkArith.wf_i64 X
def Dp{n:Int}(h:lk n):lk (uv n):=by
 have:=sT h
 unfold uv;split
 .exact vl I I
 .exact vl X X
def zk(l:List Rw)(w:World)(ar:xh e0 w U l)(hn:l.length<=50000000)(aJ:∀r∈l,lk r.o.id):
 Calls prog 17 #[.agg #[.slice U l.length hc]] w (om (oC (km (hU l))) w):=by
 refine ig λad aI=>?_
 have ay:= @run_makeMap prog;obtain⟨a,ae,be,d,q,T⟩:=box1 w 35 #[.slice U l.length hc];have s:rE (a.alloc (.map #[] 0)) a.heap.size 0 (.map []):=World.ownsMap_made a prog 2 (plainElem prog 4)
 have Z:=O (show(oC (km (hU l))).length<=50000000 by
  have h1:=wb (km (hU l));have k:=uR (hU l);rw[hZ]at k
  omega)
 have C:=q.alloc (.map #[] 0);have K:=(T.g_ ((H [] a).alloc (.map #[] 0))).f_ 0
 go_enter func17,ntmps17
 go_wp2_with fail
 obtain⟨ag,j⟩:=nm_ (a.alloc (.map #[] 0));obtain⟨M,m⟩:=nm_ a.heap.size;rw[<-j,<-m]at s;rw[<-j]at C K
 have ah:w.heap.size<=M:=by rw[m];exact q.size
 try rw[<-j]
 try rw[<-m]
 clear j m ay T q
 have ai:M∉([]:List Nat):=by simp
 go_loopw [13] (λv wr=>∃(i n:Nat) (D:DataW Unit),i<=l.length/\v=Y i/\rE wr M n D/\n<=i/\Hid (nT D (· ∈km ((hU l).take i)))/\J [] w wr) (λv _=>l.length-(rV v).toNat)
 case atStart=>exact⟨0,0,.map [],P_ _,rfl,s,H_ _,O (nT.empty.congr λak=>by simp[km]),C⟩
 case round=>
  clear s C K;obtain⟨i,n,D,hi,rfl,F,al,f,d⟩:=hrel
  by_cases z:i<l.length
  .obtain⟨am,off,P,Q,R⟩:=ar.at_ z;subst P;have W:=aJ _ (M_ z)
   have N:=O (show km ((hU l).take (i+1))=km ((hU l).take i)++(if k7 l[i].o.id=true then[uv l[i].o.id] else[]) by
    have aM:i<(hU l).length:=by rw[hZ];exact z
    rw[xN aM]
    simp[hU])
   generalize l[i]=r at*;have ax:=d.f_ Q s_;have c1:=d.f_ R s_;clear Q R;have x:=(H [] wr).alloc (.cells #[Y r.o.id,.slice r.A r.o.fs.length r.c] 56);have p:=F.kept x ai;have u:=d.trans x;have an:=Q_ wr 56 #[Y r.o.id,.slice r.A r.o.fs.length r.c];obtain⟨hq0,hq1⟩:=an.iM;have c:=oA r.o.id (wr.alloc (.cells #[Y r.o.id,.slice r.A r.o.fs.length r.c] 56)) (sT W);clear F x
   cases b:k7 r.o.id with
   |true=>
    have e:decide (1048576<=r.o.id)=true:=b;rw[e]at c;have y:=O c;obtain⟨ao,MT,V,g⟩:=p.put X (Dp W);have bM:=u.hA g (by simpa using ah);have L:=O ((f.out.put (uv r.o.id) (.lit (.bool true))).congr (P':=(· ∈km ((hU l).take (i+1)))) λak=>by rw[N.out,b,O_ rfl,T_ (t:=[uv r.o.id]),R_]);clear b e c f p g u
    go_wp2_with (go_at_call 13;refine y.out.mono ?_;rintro S w2⟨rfl,rfl⟩)
    exact KY
   |false=>
    have e:decide (1048576<=r.o.id)=false:=b;rw[e]at c;have y:=O c;have E:=O (show km ((hU l).take (i+1))=km ((hU l).take i) by rw[N.out,b,I_ I,List.append_nil]);clear b e c
    go_wp2_with (go_at_call 13;refine y.out.mono ?_;rintro S w2⟨rfl,rfl⟩)
    go_roundw
    case rel=>exact⟨i+1,n,D,by omega,by go_num,p,by omega,O (by rw[E.out];exact f.out),u⟩
    case measure=>simp[rV];omega
  .go_wp2_with fail
   have k:=f.out;rw[FK (by rw[hZ];omega)]at k
   go_at_call 61
   refine(pH F k (lu _) Z.out).mono ?_;unfold om;rintro S ao⟨A,b,rfl,e,c,g⟩;go_wp2;rw[aI.out];exact⟨A,b,rfl,e,c,d.trans g⟩
def vD{tb:TypeId}(B:Option Addr)(d:Nat)(rs:List Int)(y:Int)(r:Value)(j:Nat)(W:World)(q:Bk W j 27 #[.slice B rs.length d])(o:Ns W tb B rs)(m:rs.length<=1000000000)(p:lk y):
 Calls prog 62 (#[Y y,r]++ #[q_ j]) W λe w'=>e=.returned (.bool (!p4 rs y))/\J [] W w':=by
 refine ig λs i=>?_
 have t:=q.f_ 0;have b:=oA y W (sT p);have g:=ua B d rs (uv y) W o m
 cases a:k7 y with
 |true=>
  have c:decide (1048576<=y)=true:=a;rw[c]at b;have f:=O b;have n:=O g;have E:=O (show(!p4 rs y)= !decide (uv y∈rs) by unfold p4;rw[a,Bool.true_and]);clear a c b g
  go_enter func62,ntmps62
  go_wp2_with (first|(go_at_call 13;refine f.out.mono ?_;rintro e k⟨rfl,rfl⟩)|(go_at_call 63;refine n.out.mono ?_;rintro e k⟨rfl,rfl⟩))
  all_goals
   rw[i.out,E.out];exact⟨rfl,H _ _⟩
 |false=>
  have c:decide (1048576<=y)=false:=a;rw[c]at b;have f:=O b;have E:=O (show(!p4 rs y)=true by unfold p4;rw[a];rfl);clear a c b g
  go_enter func62,ntmps62
  go_wp2_with (go_at_call 13;refine f.out.mono ?_;rintro e k⟨rfl,rfl⟩)
  all_goals
   rw[i.out,E.out];exact⟨rfl,H _ _⟩
end
section
open Go.RowKit Go.Maps Go.Sort Go.Shelf
def xV(rs:List Int)(k:Lit)(_:DataW Unit):Bool:=match k with
 | .int _ k=> !p4 rs k
 |_=>false
def w9:Asc (allH h) (λx=>x∈kc h∨x∈hQ h):=by
 have a:=lu (kc h++hQ h);exact⟨a.lt,λx=>by unfold allH;rw[a.mem,T_]⟩
def zH(rs:List Int):Asc (ms h rs) (λx=>(x∈kc h∨x∈hQ h)/\(!p4 rs x)=false):=by
 have a:=w9 h;refine⟨a.lt.filter _,λx=>?_⟩;unfold ms;rw[F5,a.mem];simp
def x4{tb:TypeId}(l:List Rw)(B:Option Addr)(d:Nat)(rs:List Int)(w:World)(Q:xh e0 w U l)(hR:uA E w l)(hn:l.length<=50000000)(hf:B0 (kc (hU l)++hQ (hU l)))(m:∀x∈kc (hU l)++hQ (hU l),lk x)(z:Ns w tb B rs)(aU:rs.length<=1000000000):
 Calls prog 16 #[.agg #[.slice U l.length hc],.slice B rs.length d] w (om (ms (hU l) rs) w):=by
 refine ig λad aI=>?_
 obtain⟨C,ae,p,be,v,MS,MR,hB,bE⟩:=DC w 35 #[.slice U l.length hc] 27 #[.slice B rs.length d];have dt:=O (show(ms (hU l) rs).length<=50000000 from G_ (F7 _ _) (q0 hf (λx f=>f)));have bl:=O m;have aY:=O (uS U hc l C (Q.g_ MR) (hR.g_ MR) X (λx f=>m x (FL _ f)));have ag:=O (show ∀w',J [] w w'->Ns w' tb B rs from λw' h=>Sl.g_ z h);have N:=hB.f_ 0;clear hf m hR z
 go_enter func16,ntmps16
 go_upto_region 2 with(go_at_call 57;refine aY.out.mono ?_;unfold DN;rintro e w2⟨M,n0,ai,rfl,u,F,S,R,s⟩)
 have ak:=O R;replace N:=(hB.g_ s).f_ 0;clear R
 have al:M∉([]:List Nat):=by simp
 go_wp2_with fail
 go_loopw [13] (λk wr=>∃(i n:Nat) (D:DataW Unit),i<=l.length/\k=Y i/\rE wr M n D/\(n:Int)<=1000000000000000000+i/\Hid (nT D (λx=>x∈kc (hU l)∨x∈hQ ((hU l).take i)))/\J [] C wr) (λk _=>l.length-(rV k).toNat)
 case atStart=>exact⟨0,n0,ai,P_ _,by go_num,F,by simpa using S,O (ak.out.congr λx=>by simp[hQ]),s⟩
 case round=>
  clear F s N S;obtain⟨i,n,D,hi,rfl,j,am,g,G⟩:=hrel;have v:=MR.trans G
  by_cases r:i<l.length
  .obtain⟨an,off,P,W,Z⟩:=Q.at_ r;subst P
   have K:i<(hU l).length:=by rw[hZ];exact r
   have bK:=O (show hQ ((hU l).take (i+1))=hQ ((hU l).take i)++[l[i].o.id] by
    rw[X_ K]
    simp[hQ,hU])
   have hid:=bl.out _ (GG _ (Z_.2 ⟨l[i].o,Z_.2 ⟨l[i],M_ r,rfl⟩,rfl⟩));clear K;generalize l[i]=a at*;have ax:=v.f_ W s_;have c1:=v.f_ Z s_;clear W Z;have b:=(H [] wr).alloc (.cells #[Y a.o.id,.slice a.A a.o.fs.length a.c] 56);have y:=j.kept b al;have I:=G.trans b;obtain⟨hq0,hq1⟩:=(Q_ wr 56 #[Y a.o.id,.slice a.A a.o.fs.length a.c]).iM;obtain⟨T,MT,V,af⟩:=y.put X hid;have bM:=I.hA af (by simpa using u);have L:=O ((g.out.put a.o.id (.lit (.bool true))).congr (P':=λx=>x∈kc (hU l)∨x∈hQ ((hU l).take (i+1))) λx=>by rw[bK.out,T_ (t:=[a.o.id]),R_,or_assoc]);clear j b g y af I hid;go_wp2;exact KY
  .have a:=g.out;rw[FK (l:=hU l) (by rw[hZ];omega)]at a;have K:∀y w,(callFunc 62 y).run prog w=.ok (.enter 62 y) w:=enters_of func62 k_ rfl
   have I:Calls prog 58 #[.map (some M),.func (.func 62) #[] #[q_ p]] wr (λe w'=>e=.returned (.tuple #[])/\w'.ownsMap prog 2 (plainElem prog 4) M n (Lib.deleteFuncD (xV rs) D)/\wr.grownBy w' (some M)):=
    AnyDf.maps_DeleteFunc delN yH (plainElem prog 4) (xV rs) 62 #[q_ p] M n D wr K j (λaK ao val ap MO MN Z hk _=>by
     obtain⟨x,rfl,rfl,f⟩:=Maps.keyOf_int_inv underlying2 hk;have b:=G.hA (J.qk Z) (by simpa using u)
     exact(vD B d rs x val p aK (bE.g_ b) (ag.out _ (MR.trans b)) aU f).mono λe w' h=>⟨h.1,h.2.BE⟩)
   have W:=O I;have aq:=O (a.del (pd:=xV rs) (q:=λx=> !p4 rs x) (λx d=>rfl));clear I j g a
   go_wp2_with fail
   go_at_call 58
   refine W.out.mono ?_;rintro e ah⟨rfl,au,aw⟩;have MP:=G.hA (J.qk aw) (by simpa using u)
   go_wp2_with fail
   go_at_call 61
   refine(pH (w:=ah) au aq.out (zH (hU l) rs) dt.out).mono ?_;exact KT
end
section
open Go.RowKit Go.Maps Go.Sort Go.Shelf
def rk(run n:Int):Prop:=run<0∨1099511627776<run∨n<0∨1048576<=n
instance (run n:Int):Decidable (rk run n):=by unfold rk;infer_instance
def EX(run n:Int):Int:=if rk run n then 0 else(run+1)*1048576+n
def EY(run n:Int):Int:=if rk run n then 2 else 0
def A3{a b c d:Int}(h:a=b)(k:c=d):Ending.returned (.tuple #[Y a,Y c])=Ending.returned (.tuple #[Y b,Y d]):=by rw[h,k]
def Dx(run n:Int)(w:World):
 Calls prog 43 #[Y run,Y n] w λe w'=>e=.returned (.tuple #[Y (EX run n),Y (EY run n)])/\w=w':=by
 have D:=O (show EX run n=if rk run n then 0 else(run+1)*1048576+n from rfl);have a6:=O (show EY run n=if rk run n then 2 else 0 from rfl)
 by_cases h:rk run n
 .have aV:=O h;unfold rk at h
  go_enter func43,ntmps43
  rcases Classical.em (run<0)with a|a
  .exact Lw
  .rcases Classical.em (1099511627776<run)with b|b
   .exact Lw
   .rcases Classical.em (n<0)with c|c
    .exact Lw
    .have d:1048576<=n:=by omega
     clear h;exact Lw
 .have aV:=O h;unfold rk at h
  have a:¬run<0:=by omega
  have b:¬1099511627776<run:=by omega
  have c:¬n<0:=by omega
  have d:¬1048576<=n:=by omega
  clear h
  go_enter func43,ntmps43
  go_wp2
  go_ret2
  exact⟨A3 (by rw[D.out,I_ aV.out]) (by rw[a6.out,I_ aV.out]),rfl⟩
def Bi(a:Option Addr)(fc:Nat):List Rw:=[⟨⟨1,[⟨true,9⟩]⟩,a,fc⟩]
def xL(w:World):Calls prog 10 #[] w λe w'=>e=.returned (.bool true)/\J [] w w':=by
 obtain⟨E,P,j⟩:=qL w 38 #[.bool true,Y 9] 56 #[Y 1,.slice (j_ w.heap.size) 1 1];have f:Os ((w.alloc (.cells #[.bool true,Y 9] 38)).alloc (.cells #[Y 1,.slice (j_ w.heap.size) 1 1] 56)) (j_ (w.heap.size+1)) (Bi (j_ w.heap.size) 1):=yO (r:=⟨⟨1,[⟨true,9⟩]⟩,some (Z w.heap.size 0),1⟩) P
 have g:nV ((w.alloc (.cells #[.bool true,Y 9] 38)).alloc (.cells #[Y 1,.slice (j_ w.heap.size) 1 1] 56)) (Bi (j_ w.heap.size) 1):=by
  intro r o
  have:r=⟨⟨1,[⟨true,9⟩]⟩,some (Z w.heap.size 0),1⟩:=by simpa[Bi]using o
  subst this;exact⟨Eh (v:=⟨true,9⟩) E,HW rfl⟩
 have c:=Dx 0 0 w;rw[show EX 0 0=1048576 by decide,show EY 0 0=0 by decide]at c;have b:=oA 1048579 w X;rw[show uv 1048579=0 by decide,show DW 1048579=3 by decide,show decide ((1048576:Int)<=1048579)=true by decide]at b
 go_enter func10,ntmps10
 go_wp2_with fail
 go_at_call 43
 refine c.mono ?_;rintro e q⟨rfl,rfl⟩
 go_wp2_with fail
 go_at_call 13
 refine b.mono ?_;rintro e q⟨rfl,rfl⟩;clear c b
 go_wp2_with fail
 go_at_call 15
 have d:=zU (j_ (w.heap.size+1)) 1 _ _ f.e g.e (HW rfl) (B0.of_le (HW rfl)) (by intro t p;have:t=9:=(by simpa[kc,pM,hU,Bi,isRef]using p);subst this;rfl);rw[show va (hU (Bi (j_ w.heap.size) 1))=[9] from rfl]at d;refine d.mono ?_;unfold om;rintro e s⟨A,x,rfl,a,_,k⟩;have n:=j.trans k;replace a:Sl s 2 1 A 1 [Y 9]:=a;obtain⟨y,u,rfl,i⟩:=a.f_ X;have m:=i 0 _ rfl;simp only[G0]at m;clear i a f g E P;go_wp2;go_ret;exact⟨rfl,n⟩
end
structure oR(l:List Rw):Prop where
 len:l.length<=50000000
 few:B0 (kc (hU l)++hQ (hU l))
 wf:∀x∈kc (hU l)++hQ (hU l),lk x
def oR.Co{l:List Rw}(h:oR l):B0 (kc (hU l)):=λe a b=>h.few e a λd c=>FL _ (b d c)
def oR.D9{l:List Rw}(h:oR l):∀r∈l,lk r.o.id:=λr a=>h.wf _ (GG _ (Z_.2 ⟨r.o,Z_.2 ⟨r,a,rfl⟩,rfl⟩))
structure xi(w:World)(A:Option Addr)(l:List Rw):Prop where
 os:∃e0,xh e0 w A l
 lD:∃E,uA E w l
 good:oR l
def xi.g_{w:World}{A:Option Addr}{l:List Rw}(h:xi w A l)(a:J [] w w'):xi w' A l:=by
 obtain⟨⟨b,c⟩,⟨E,d⟩,e⟩:=h;exact⟨⟨b,c.g_ a⟩,⟨E,d.g_ a⟩,e⟩
section
variable{w:World}{A B:Option Addr}{l:List Rw}{rs:List Int}{tb:TypeId}
def xi.DZ(h:xi w A l)(c:Nat):Calls prog 17 #[.agg #[.slice A l.length c]] w (om (oC (km (hU l))) w):=by
 obtain⟨⟨d,b⟩,⟨E,e⟩,a⟩:=h;exact zk A c l w b a.len a.D9
def xi.Bw(h:xi w A l)(c d:Nat)(b:Ns w tb B rs)(e:rs.length<=1000000000):Calls prog 16 #[.agg #[.slice A l.length c],.slice B rs.length d] w (om (ms (hU l) rs) w):=by
 obtain⟨⟨i,f⟩,⟨E,g⟩,a⟩:=h;exact x4 A c l B d rs w f g a.len a.few a.wf b e
end
def oR.lens{l:List Rw}(h:oR l)(rs:List Int):(oC (kc (hU l))).length<=50000000/\(va (hU l)).length<=50000000/\(oC (km (hU l))).length<=50000000/\(ms (hU l) rs).length<=50000000:=by
 have b:=q0 h.Co (λd a=>a);refine⟨b,G_ (F7 _ _) b,?_,G_ (F7 _ _) (q0 h.few (λd a=>a))⟩;have e:=wb (km (hU l));have c:=uR (hU l);rw[hZ]at c
 have:=h.len
 omega
def oR.Bl{l:List Rw}(d:l.length<=50000000)(h:HG Sm (hU l)):oR l:=by
 have c:∀b∈kc (hU l)++hQ (hU l),Sm b:=λb a=>by
  rcases T_.1 a with a|a
  .exact h.refs b a
  .obtain⟨f,e,rfl⟩:=Z_.1 a;exact h.ids f e
 exact⟨d,B0.Bl c,λb a=>by obtain⟨g,i⟩:=c b a;exact vl X X⟩
def oR.C1{a:Md}(h:yo a):oR a.s.h.l:=by
 obtain⟨e,run,d,hc,_⟩:=h.cm;have c:=(hc.cb h.val).1.h;have b:a.s.p.h=hU a.s.h.l:=rfl;rw[b,hZ]at c;refine .Bl X ?_;rw[<-b];exact hc.gX D3 h.val X
