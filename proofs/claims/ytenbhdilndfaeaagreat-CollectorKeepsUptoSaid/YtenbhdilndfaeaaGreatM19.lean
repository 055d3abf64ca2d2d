import Derived.Test.YtenbhdilndfaeaaGreatM18
set_option maxRecDepth 100000
set_option maxHeartbeats 0
set_option linter.all false
namespace Go.Proofs.YtenbhdilndfaeaaGreat
open Go.RowKit Go.Proofs.Tryz
variable{l:QU}
def KF{G:Prop} (h:G:=by
 go_wp2_with (go_at_call 172;refine bT.out.mono ?_;rintro e az⟨rfl,aC⟩);go_roundw;exact⟨k+1,X,gn,(m.trans cn).trans aC⟩;exact mz):G:=h
structure CG(q:Nat->Prop)(w:World)(PA:OA)(fs:QF)(Ns:QY):Prop where
 pg:PG ig q w PA fs Ns
 pc:PC w PA fs
 ix:∀(k:Nat) (h:k<fs.length),tX fs[k].name fs 0=k
 p0:∀h:0<fs.length,fs[0].ps=[]
 nd:∀f∈fs,f.ps.Nodup
 vs:∀(k:Nat) (h:k<fs.length) (h2:k<Ns.length),∃V:List ByteArray,V.length<=1000/\2<=V.length/\V.Nodup/\l4 V 5 Ns[k] fs[k].bs/\∀vs:List ByteArray,nU vs fs[k].bs->(∀x∈fs[k].ps,x∈vs)->∀x∈V,x∈vs
def CG.hF{q:Nat->Prop}{w w':World}{a:OA}{fs:QF}{Ns:QY}(h:CG q w a fs Ns)(b:J [] w w'):CG q w' a fs Ns:=⟨h.pg.hF b,h.pc.hF b,h.ix,h.p0,h.nd,h.vs⟩
def sU(h:l.Nodup){k:Nat}(e:k<l.length):hasB (l.take k) l[k]=false:=by
 cases a:hasB (l.take k) l[k]with
 |false=>rfl
 |true=>
  have d:=qP.1 a;have b:=(Hm k l).symm;rw[b,HJ]at h;have c:l[k]∈l.drop k:=IB.2 ⟨0,p_,H⟩;exact Gc rfl (h.2.2 _ d _ c)
def Bs.take{w:World}{A:OA}(h:Bs w A l)(k:Nat)(o:k<=l.length):Bs w A (l.take k):=by
 refine⟨H,λi=>?_⟩;obtain⟨b,m,c,d,e,f,g⟩:=h.2 (by simp at i;omega);refine⟨b,m,c,d,e,f,λj n a=>g j n ?_⟩;rw[List.map_take,G1]at a;split at a;exact a;cases a
def sk:ig.length=9:=rfl
def wI(q:Nat->Prop)(h:OA)(c:Nat)(fs:QF)(Ns:QY)(w:World)(af:CG q w h fs Ns):
 Calls prog 134 #[.agg #[.slice h 3 c]] w (vE (.tuple #[Y 0,Y 0]) w):=by
 refine h6 λaj ao=>?_;obtain⟨H,p,aV,hx,hg,r⟩:=box1 w 150 #[.slice h 3 c];have v:H.cell? (Z p 0)=some (.slice h 3 c):=r.f_ 0;have b:=O (af.hF hg);go_enter func134,ntmps134;go_wp2_with fail;go_at_call 169;refine(xw Du q h c fs Ns H b.out.pg).mono ?_;rintro e w2⟨rfl,Np⟩;have ah:w2.cell? (Z p 0)=some (.slice h 3 c):=(r.hF Np).f_ 0;go_wp2;have bV:=O aV;go_loopw [19] (λf w'=>∃k:Nat,k<=3/\f=Y k/\J [] H w') (λf _=>3-(intOf f).toNat)
 case atStart=>exact⟨0,X,gn,Np⟩
 obtain⟨k,hk,rfl,F⟩:=hrel;by_cases ag:k<3
 .have d:k<fs.length:=ov b.out.pg.len;have I:k<Ns.length:=ov b.out.pg.nl;have C:=b.out.hF F;obtain⟨n,s,hA,z0,aR,aZ⟩:=B1.at_ C.pg.hfs d;subst hA;have ak:=C.pg.rd _ (N_ d);obtain⟨_,N,b4⟩:=b.out.pg.nm _ (N_ d);have y:=b.out.pg.sg k d I;have x:=b.out.vs k d I;have G:=b.out.ix k d;have E:=b.out.nd _ (N_ d);have eh:Ns[k]<=64:=by have:=pq Ns k I;have:=b.out.pg.sum;omega
  have Q:k=0->fs[k].ps=[]:=λe=>by subst e;exact b.out.p0 _
  obtain⟨a,hf⟩:=nm_ (fs[k]);obtain⟨al,am⟩:=nm_ (Ns[k]);rw[<-hf]at z0 aR aZ ak N b4 y x G E Q;rw[<-am]at y x eh;have t:=O ak;have br:=O N;have cZ:=O y;have cI:=O x;have an:=O G;have Nw:=O E;have c6:=O Q;have T:=O C;clear hf am ak N y x G E Q C;have js:=λar ap=>by
   have h1:=nP (some (Z n s)) 3 c fs a.name ar T.out.pg.len (T.out.hF ap).pg.hfs X;rw[an.out]at h1;exact h1
  have au:=O js;clear js;obtain⟨ax,bz,b6,hg1,aA,i⟩:=box1 wr 213 #[.string a.name,.slice a.AP a.ps.length a.cP,.slice a.A a.bs.length a.c];obtain⟨v,ah,L⟩:=i.nQ;have hy:=(r.hF F).f_ 0;have cj:wr.cell? (Z p 0)=some (.slice (some (Z n s)) 3 c):=hy;clear hy;have dD:decide ((k:Int)<3)=true:=p_;go_upto_region 8 with fail;have aB:=F.trans aA;clear v ah L cj z0 aR aZ;go_loopw [27] (λf w'=>∃j:Nat,j<=a.ps.length/\f=Y j/\J [] ax w') (λf _=>a.ps.length-(intOf f).toNat)
  case atStart=>exact⟨0,X,gn,F_ _ _⟩
  obtain⟨j,hj,rfl,A⟩:=hrel;have g:=aA.trans A;have m:=aB.trans A;obtain⟨aF,B⟩:=mn_ a.ps.length;have aG:=O B;have Nt:aF<=2:=X;have v:wr.cell? (Z p 0)=some (.slice (some (Z n s)) 3 c):=(r.hF m).f_ 0;obtain⟨aT,P,aD⟩:=(i.hF A).nQ;by_cases M:j<a.ps.length
  .have l:=(t.out.hF g).hp;obtain⟨b2,aH,u,hc⟩:=Sl.f_ l X;have L:=hc j (.string a.ps[j]) (by rw[GF,K_ M];rfl);have V:=sU Nw.out M;have z:=l.take j X;have R:(a.ps.take j).length=j:=p_;generalize a.ps[j]=aI at L V;have b8:j<=a.cP:=ov t.out.vJ;have av:(j:Int)<=a.cP:=X;have U:=O (au.out wr g);have aw:=O z;have aJ:=O R;have Nu:=O V;have aL:=O u;rw[u]at z;have bS:=O (λo(ad:J [] wr o)=>oF (some (Z b2 aH)) j a.cP (a.ps.take j) aI o R (Sl.hF z ad) X);rw[B]at P M |-;rw[u]at P |-;clear hc B u z R V l
   go_wp2_with fail;go_at_call 170;refine U.out.mono ?_;rintro e K⟨rfl,ad⟩;have S:=bS.out K ad;rw[Nu.out]at S;have aM:=O S;obtain⟨v0,W,aQ⟩:=(i.hF (A.trans ad)).nQ;rw[aG.out,aL.out]at W;clear S aT P aD v;go_wp2_with (go_at_call 171;refine aM.out.mono ?_;rintro e D⟨rfl,rfl⟩);exact MF
  subst B;have U:=O (au.out wr g);have ed:=O (λo(ad:J [] wr o)=>sO ig (by rw[sk];decide) 5 al a q o ((t.out.hF g).hF ad) cZ.out X br.out X);go_wp2_with fail;go_at_call 170;refine U.out.mono ?_;rintro e K⟨rfl,ad⟩;obtain⟨v0,W,aQ⟩:=(i.hF (A.trans ad)).nQ;go_wp2_with fail;go_at_call 135;refine(ed.out K ad).mono ?_;rintro e D⟨aW,c5,z,rfl,V,eA,eI,eE,eB,ai⟩;have cn:=ad.trans ai;obtain⟨v0,W,aQ⟩:=(i.hF (A.trans cn)).nQ;have a6:=by have R:=ly z ig eA eI;rw[sk]at R;exact R
  obtain⟨aN,S,_,_,d4,ei⟩:=cI.out;have bT:=O (yi S 5 al (some (Z n s)) c fs aW c5 z a.A _ a.c a.bs q D X rfl d4 (ei z eB eE) X V ((T.out.hF g).hF cn).pc ((t.out.hF g).hF cn).hb ((t.out.hF g).hF cn).hs);have a2:D.cell? (Z p 0)=some (.slice (some (Z n s)) 3 c):=(r.hF (m.trans cn)).f_ 0;by_cases u:k=0;have bZ:a.ps.length=0:=by rw[c6.out u];rfl
  have bj:((k:Int)==0)=true:=by simp[u]
  exact KF;have bj:((k:Int)==0)=false:=by simp[u]
  exact KF
 exact M5
