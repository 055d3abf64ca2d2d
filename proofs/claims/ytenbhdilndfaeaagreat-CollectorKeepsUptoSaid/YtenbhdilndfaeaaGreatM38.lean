import Derived.Test.YtenbhdilndfaeaaGreatM37
set_option maxRecDepth 100000
set_option maxHeartbeats 0
set_option linter.all false
namespace Go.Proofs.YtenbhdilndfaeaaGreat
open Go.RowKit Go.Proofs.Tryz
variable{G:Prop}{aB base i k n0:Nat}{m:Md}{a:Act}{b:Value}{w' wr:World}{C a8 aJ aQ e:TypeId}{A B:OA}{ops:Array Oper}{K:Act->World->Prop}{Q:Exit->Act->World->Prop}{E:Rw->TypeId}{x:Int}{vs:QR}
def LK(h:G:=by
 go_roundw;exact⟨i+1,vs,td,some (Z b off),aj,X,gn,rfl,bD,dX,aq,u⟩;exact mz):G:=h
def LS(h:G:=by
 go_wp2;go_roundw;exact⟨j+1,a,aY,c3,X,gn,rfl,h,a6,aS,aU,Nt,ay⟩;exact mz):G:=h
def MM(h:G:=by
 exact⟨_,rfl,⟨A',c',rfl,bj,k3,by rw[<-am];simp,au.trans cA⟩,cA⟩):G:=h
def MN(h:G:=by
 go_roundw;exact⟨m+1,_,X,gn,f,hg⟩;exact mz):G:=h
def FL.kk{h:QQ}(j:FL h)(id f:Int)(v:Vl):FL (kk h id f v):=by
 intro n g;unfold Go.Proofs.YtenbhdilndfaeaaGreat.kk at g;obtain⟨k,c,e⟩:=Hu g;rw[H5]at c;rw[G7]at e;have d:=j _ (N_ c);split at e;rw[<-e];simpa using d;rw[<-e];exact d
def FL.ll{h:QQ}(av:FL h){o:Ob}(ho:o.fs.length<=70):FL (ll h o):=by
 have hp:∀(a b:QQ),(∀x∈a,x.fs.length<=70)->(∀x∈b,x.fs.length<=70)->FL (a++[o]++b):=K2;unfold Go.Proofs.YtenbhdilndfaeaaGreat.ll;exact K3
def FL.puts:∀(l:QQ) {h:QQ},FL h->FL l->FL (l.foldl Go.Proofs.YtenbhdilndfaeaaGreat.ll h)
 |[],_,c,_=>c
 |o::l,_,c,d=>FL.puts l (c.ll (d o GM)) (λx f=>d x (Gj _ f))
def FL.pe{h:QQ}(d:FL h)(c:Cl):FL (pe h c):=by
 unfold Go.Proofs.YtenbhdilndfaeaaGreat.pe;split;exact d;exact d.kk _ _ _
def FL.iV:∀(l:QX) {h:QQ},FL h->FL (iV h l)
 |[],_,d=>d
 |c::l,_,d=>FL.iV l (d.pe c)
def FL.nT{h:QQ}(c:FL h)(d:Dl):FL (nT h d):=by
 unfold Go.Proofs.YtenbhdilndfaeaaGreat.nT;split;exact c;split
 .exact c.kk _ _ _
 exact c
def FL.jU:∀(l:QD) {h:QQ},FL h->FL (jU h l)
 |[],_,c=>c
 |d::l,_,c=>FL.jU l (c.nT d)
def FL.lP{t:jb}{h:QQ}(d:FL t.nw)(c:FL h):FL (lP h t):=FL.jU _ (FL.iV _ (FL.puts _ c d))
def FL.mX{c:QS}{hH hC:Int}{d:QR}{view:QQ}(f:ia c hH hC=true):∀(n:Nat) {t:jb},FL t.nw->FL (mX c hH hC d view n t).nw
 |0,_,h=>h
 |n+1,t,h=>by
  unfold Go.Proofs.YtenbhdilndfaeaaGreat.mX;split;exact FL.mX f n (h.step f);exact h
def FL.ky{h:QQ}{e:p7}(c:FL h)(d:FL e.nw):FL (ky h e):=FL.iV _ (FL.puts _ c d)
def FL.nil:FL []:=λd c=>by cases c
def uX.fl{l:QS}{hH hC:Int}{d j:QR}{run:Int}{s:qb}(g:ia l hH hC=true)(h:uX l hH hC d j k run s):FL s.h:=by
 have o:=kn g;induction h with
 |hQ=>
  intro n f;unfold qU startHeap at f;simp only[if_true]at f;rcases O_.1 f with e|f
  rw[e];simp;rw[J_.1 f];simp;omega
 |ask _ _ _ c=>
  unfold ny;split
  .exact FL.nil
  split;exact FL.nil;unfold oh;split
  .exact c.pe _
  split;exact c.ky (vk g _ _ _ _);exact c.ky (vk g _ _ _ _)
 |@commit n a f h _ _ c=>
  unfold kR;split
  .exact FL.nil
  split
  .exact FL.nil
  split;exact FL.nil;have hc:FL (mP l hH hC d f a).nw:=FL.mX g _ uO;unfold mx;split
  .exact FL.lP hc c
  exact FL.lP hc c
def Md.fl(E:zT m):(jr (hX m.s.h.l)).length<=600000000:=by
 obtain⟨k,run,f,hc,_⟩:=E.cm;have d:=(hc.cb E.val).1.h;have e:m.s.p.h=hX m.s.h.l:=rfl;have c:=hc.fl E.val;rw[e]at d c;have:=oR c;omega
def Md.tb(E:zT m):(jM (m.ts.map Tk.p)).length<=700000000/\∀t∈m.ts,t.gs.l.length<=300000000/\t.rs.l.length<=300000000/\t.ws.l.length<=300000000:=by
 obtain⟨k,run,r,hc,cA⟩:=E.cm;have hl:=(kn E.val).2.1;have B:m.ts.length<=16/\∀t∈m.ts,FL t.p.nw/\t.p.sm 500000:=JZ;have h:=ri (ts:=m.ts.map Tk.p) (n:=38500000) λt ht=>by
  obtain⟨g,d,rfl⟩:=Ge.1 ht;exact s3 (B.2 g d).1 (B.2 g d).2
 rw[Gg]at h;have q:=B.1;refine⟨X,λt ht=>?_⟩;have c:=(B.2 t ht).2;have o:t.gs.l.length<=500000:=c.gs;have j:t.rs.l.length<=500000:=c.rs;have p:t.ws.l.length<=500000:=c.ws;omega
def AG(a b:QR):kH (a++b)=b.foldl insL (kH a):=by simp[kH]
def pu{l:QR}:(kH l).length<=l.length:=lz _ (kG l).nodup λx c=>((kG l).mem x).1 c
def JR(w wr:World)(v:Value)(xs R L:QR):Prop:=∃(A:OA) (c:Nat),v=.slice A (kH xs).length c/\Ls wr A (kH xs)/\(kH xs).length<=c/\xs++R=L/\J [] w wr
def JR.gr{w:World}{v:Value}{xs R L:QR}(h:JR w wr v xs R L)(k:J [] wr w'):JR w w' v xs R L:=by
 obtain⟨A,f,g,j,n,c,d⟩:=h;exact⟨A,f,g,Sl.hF j k,n,c,d.trans k⟩
def JR.eq{w:World}{v:Value}{xs R R' L:QR}(h:JR w wr v xs R L)(e:R=R'):JR w wr v xs R' L:=e▸h
def JR.jo{w:World}{v:Value}{xs R L:QR}{n:Int}(h:JR w wr v xs (n::R) L)(j:L.length<=999999998):
 Calls prog 65 #[v,Y n] wr λe w'=>∃c,e=.returned c/\JR w w' c (xs++[n]) R L/\J [] wr w':=by
 obtain⟨A,d,rfl,f,g,am,au⟩:=h;have o:=vn am;have p:=pu (l:=xs);refine(tz A d (kH xs) n wr f X g).mono ?_;unfold BX;rintro e w'⟨A',c',rfl,bj,k3,cA,-⟩;rw[<-uw]at bj k3|-;exact MM
def JR.val{w:World}{v:Value}{xs R L:QR}{u:Vl}(h:JR w wr v xs (lr u++R) L)(j:L.length<=999999998):
 Calls prog 71 #[v,.agg #[.bool u.r,Y u.n]] wr λe w'=>∃c,e=.returned c/\JR w w' c (xs++lr u) R L/\J [] wr w':=by
 obtain⟨A,d,rfl,f,g,am,au⟩:=h;have n:=vn am;have o:=pu (l:=xs);refine(yV A d (kH xs) u wr f X g).mono ?_;unfold jR;rintro e w'⟨A',c',rfl,bj,k3,cA⟩;rw[<-AG]at bj k3|-;exact MM
def EZ{m c:Nat}{xs ys:QX}{w:World}{o:Oper}{E:Prop}{s x:Operand}(ak:w.ownsRow base 116 4 (.slice B xs.length aB) xs.length (xs.flatMap Cl.E))(hr:Sl w C 4 A m (ys.flatMap Cl.E))(hm:m=ys.length)(hb:base<=w.heap.size)(hn:xs.length+m<=1000000000)(h:∀(A':OA) (c':Nat) (w':World),w'.ownsRow base 116 4 (.slice A' (xs++ys).length c') (xs++ys).length ((xs++ys).flatMap Cl.E)->App base 116 w w'->K (a.put o.dst (.slice A' (xs++ys).length c')) w')(Nw:o.guard=none:=by rfl)(ho:o.op=.call {callee:=.builtin .append,args:=#[s,x],argTypes:=#[50,50]}:=by rfl)(hs:a.eval s=.slice B n0 aB:=by rfl)(hx:a.eval x=.slice A m c:=by rfl)(cg:xs.length=n0:=by first|rfl|(simp;done)):
 if Region.wanted o (yielded ops a.tmps)=true then Oper.wp prog o a w K Q else E:=by
 obtain⟨bu,bB,bt,a7,a6⟩:=info_parts infoCl;subst cg hm;refine nA Nw s x _ ho base 116 bu _ 4 32 underlying50 bB bt a7 a6 rfl I I B xs.length aB (xs.flatMap Cl.E) hs ak A ys.length c (ys.flatMap Cl.E) hx hr (o4 _) X hb λA' c' w' h1 h2=>?_;rw[<-I_]at h1|-;refine h A' c' w' ?_ h2;rw[Gs];exact h1
def tN(a b:QX):j3 (a++b)=j3 a++j3 b:=by simp[j3]
def wJ{l:QX}(h:k<l.length):j3 (l.drop k)=l[k].id::(lr l[k].v++j3 (l.drop (k+1))):=by
 unfold j3;rw[R_ h,Gi];rfl
def JR.g{w:World}{v:Value}{xs R L:QR}(h:JR w wr v xs R L):J [] w wr:=by
 obtain⟨_,_,_,_,_,_,h⟩:=h;exact h
def v_(TA:OA)(tc:Nat)(ts:QB)(w:World)(Nt:Sl w a8 48 TA ts.length (ts.flatMap λt=>t.g_.toList))(al:∀t∈ts,rC w t)(hn:(jM (ts.map Tk.p)).length<=999999998)(hb:ts.length<=1000000000/\∀t∈ts,t.gs.l.length<=300000000/\t.rs.l.length<=300000000/\t.ws.l.length<=300000000/\t.ds.l.length<=1000000000/\t.nw.l.length<=1000000000):
 Calls prog 29 #[.slice TA ts.length tc] w (jR (kH (jM (ts.map Tk.p))) w):=by
 refine h6 λQ ao=>?_;have an:JR w (w.alloc (.cells #[Y 1] 2)) (.slice (j_ w.heap.size) 1 1) [1] ((ts.drop 0).flatMap λt=>lj t.p) (jM (ts.map Tk.p)):=
  ⟨j_ w.heap.size,1,rfl,Ls.one w 1,H_ _,by unfold jM;rw[List.flatMap_map];rfl,(F_ [] w).alloc _⟩
 have aN:=O al;have aX:=O hn;have ap:=hb.1;have HB:=O hb.2;generalize jM (ts.map Tk.p)=P at *;clear al hn hb;go_enter func29,ntmps29;go_wp2_with fail;go_loopw [3,4,5,6,7,8,9] (λs N v5 bn aD G W wr=>∃(k:Nat) (xs:QR),k<=ts.length/\N=Y k/\Hid (JR w wr s xs ((ts.drop k).flatMap λt=>lj t.p) P)) (λ_ N _ _ _ _ _ _=>ts.length-(intOf N).toNat)
 case atStart=>exact⟨0,[1],L_ _,gn,O an⟩
 clear an;obtain⟨k,xs,hk,rfl,f⟩:=hrel;by_cases ag:k<ts.length
 .obtain⟨b,r,bo,hc⟩:=Ao Nt ag;subst bo;have D:=aN.out _ (N_ ag);have bX:=HB.out _ (N_ ag);have c:=O (f.out.eq (R':=j3 ((ts[k].gs.l++ts[k].rs.l)++ts[k].ws.l)++(ts[k].ds.l.map (·.id)++(jr (hX ts[k].nw.l)++((ts.drop (k+1)).flatMap λt=>lj t.p)))) (by
   rw[R_ ag,Gi,tN,tN];simp only[lj,GE];rfl))
  have aq:=f.out.g;obtain⟨n,hR⟩:=mn_ ((ts.drop (k+1)).flatMap λt=>lj t.p);rw[hR]at c;have bi:=O hR;clear hR f;generalize ts[k]=t at *
  have M:∀d v,d<48->t.g_[d]?=some v->wr.cell? (Z b (r+k*48+d))=some v:=λd v hj hv=>aq.f_ ((hc d hj).trans hv) H;clear hc;obtain⟨_,s1⟩:=D.gs;obtain⟨_,aW⟩:=D.rs;obtain⟨_,cx⟩:=D.ws;obtain⟨_,df⟩:=D.ds;obtain⟨_,bY⟩:=D.nw;obtain⟨_,bU⟩:=D.nr;have cG:wr.cell? (Z b (r+k*48+36))=some (.slice t.gs.A t.gs.l.length t.gs.c):=M 36 _ X rfl;have cH:wr.cell? (Z b (r+k*48+37))=some (.slice t.rs.A t.rs.l.length t.rs.c):=M 37 _ X rfl;have cI:wr.cell? (Z b (r+k*48+38))=some (.slice t.ws.A t.ws.l.length t.ws.c):=M 38 _ X rfl;have bB:wr.cell? (Z b (r+k*48+39))=some (.slice t.nw.A t.nw.l.length t.nw.c):=M 39 _ X rfl;have bJ:wr.cell? (Z b (r+k*48+40))=some (.slice t.ds.A t.ds.l.length t.ds.c):=M 40 _ X rfl;have ar:=Sl.hF s1 aq;have av:=Sl.hF aW aq;have ah:=Sl.hF cx aq;clear M D;go_upto_region 5 with fail;refine hN (λw'=>w'.cell? (Z b (r+k*48+36))=some (.slice t.gs.A t.gs.l.length t.gs.c)/\w'.cell? (Z b (r+k*48+37))=some (.slice t.rs.A t.rs.l.length t.rs.c)/\w'.cell? (Z b (r+k*48+38))=some (.slice t.ws.A t.ws.l.length t.ws.c)) 20 k_ ?_;obtain⟨j,F⟩:=nm_ wr.drew;have a:J [] wr j:=by rw[F];exact(F_ [] wr).drew
  rw[<-F];clear F;refine mC ⟨a.f_ cG H,a.f_ cH H,a.f_ cI H⟩ λC=>?_;refine ir 1 C ?_;refine ir 2 C ?_;refine ir 3 C ?_;refine ir 4 C ?_;refine ir 5 C ?_;refine ir 7 C ?_;refine ir 8 C ?_;refine ir 9 C ?_;refine ir 10 C ?_;refine ir 11 C ?_;refine ir 13 C ?_;refine ir 14 C ?_;refine ir 15 C ?_;refine ir 16 C ?_;refine ir 17 C ?_;refine hY 0 λK g=>?_;go_simp;have aB:=pV j j.heap.size 116 4 j.heap.size rfl (H_ _);have aJ:=(F_ [] j).alloc (.cells #[] 116);have p:=O C;refine h4 g ⟨aJ.f_ C.1 H,aJ.f_ C.2.1 H,aJ.f_ C.2.2 H⟩ λC=>?_;clear g K;generalize j.alloc (.cells #[] 116)=d6 at *
  refine hY 6 λK g=>?_;refine EZ (xs:=[]) aB (Sl.hF ar (a.trans aJ)) rfl aJ.size (by simp;omega) ?_;intro A1 c1 w1 Np p1;rw[Gf]at Np |-;have L:=p1.gr [] j (H_ _) aJ
  refine h4 g ⟨L.f_ p.out.1 H,L.f_ p.out.2.1 H,L.f_ p.out.2.2 H⟩ λC=>?_;refine hY 12 λK g=>?_;refine EZ Np (Sl.hF av (a.trans L)) rfl L.size (by omega) ?_;intro aw aj w2 ax ay;obtain⟨ps,l⟩:=mn_ (t.gs.l++t.rs.l);have bZ:ps.length<=600000000:=by rw[<-l];simp;omega
  rw[l]at ax c |-;have I:=ay.gr [] j (H_ _) L
  refine h4 g ⟨I.f_ p.out.1 H,I.f_ p.out.2.1 H,I.f_ p.out.2.2 H⟩ λC=>?_;refine hY 18 λK g=>?_;refine EZ ax (Sl.hF ah (a.trans I)) rfl I.size (by omega) ?_;intro aY c3 af dz az;have aA:=az.gr [] j (H_ _) I;refine h4 g ⟨aA.f_ p.out.1 H,aA.f_ p.out.2.1 H,aA.f_ p.out.2.2 H⟩ λC=>?_;obtain⟨q,aE⟩:=mn_ (ps++t.ws.l);rw[aE]at dz c |-
  have hcl:q.length<=1000000000:=by rw[<-aE];simp;omega
  refine ir 19 C ?_;refine hM k_ ?_ _;have i:=a.trans aA;have f:=O (c.out.gr i);have cp:=Sl.iP dz;replace bB:=i.f_ bB H;replace bJ:=i.f_ bJ H;go_wp2_with fail;go_loopw [3,6] (λs bn wr=>∃(m:Nat) (xs:QR),m<=q.length/\bn=Y m/\Hid (JR w wr s xs (j3 (q.drop m)++(t.ds.l.map (·.id)++(jr (hX t.nw.l)++n))) P)/\J [] af wr) (λ_ bn _=>q.length-(intOf bn).toNat)
  case atStart=>exact⟨0,xs,L_ _,gn,f,F_ _ _⟩
  obtain⟨m,xs,hm,rfl,f,hg⟩:=hrel;by_cases h:m<q.length
  .obtain⟨S,E,B,y,br,T,U⟩:=De cp h;subst B;have c:=O (f.out.eq (R':=q[m].id::(lr q[m].v++(j3 (q.drop (m+1))++(t.ds.l.map (·.id)++(jr (hX t.nw.l)++n))))) (by rw[wJ h];simp only[Hx,GE]));generalize q[m]=x at *;replace y:=hg.f_ y H;replace T:=hg.f_ T H;replace U:=hg.f_ U H;go_upto_region 9 with fail;refine hN (λw'=>w'.cell? (Z S (E+m*4))=some (Y x.id)/\w'.cell? (Z S (E+m*4+2))=some (.bool x.v.r)/\w'.cell? (Z S (E+m*4+3))=some (Y x.v.n)) 14 k_ ?_;obtain⟨j,F⟩:=nm_ wr.drew;have a:J [] wr j:=by rw[F];exact(F_ [] wr).drew
   rw[<-F];clear F;refine mC ⟨a.f_ y H,a.f_ T H,a.f_ U H⟩ λC=>?_;have R:=O ((c.out.gr a).jo aX.out);clear c y T U;refine ir 0 C ?_;refine ir 1 C ?_;refine ir 2 C ?_;refine ir 3 C ?_;refine ir 4 C ?_;refine ir 5 C ?_;refine ir 7 C ?_;refine ir 8 C ?_;refine ir 9 C ?_;refine ir 10 C ?_;refine ir 11 C ?_;refine hY 6 λK g=>?_;go_simp;go_at_call 65;refine R.out.mono ?_;rintro e ae⟨N,rfl,V,u⟩;have Nw:=O (V.val aX.out);refine h4 g ⟨u.f_ C.1 H,u.f_ C.2.1 H,u.f_ C.2.2 H⟩ λC=>?_;refine hY 12 λK g=>?_;go_simp;go_at_call 71;refine Nw.out.mono ?_;rintro e Nq⟨v5,rfl,Nv,z⟩;refine h4 g ⟨z.f_ C.1 H,z.f_ C.2.1 H,z.f_ C.2.2 H⟩ λC=>?_;refine ir 13 C ?_;refine hM k_ ?_ _;have f:=O Nv;have hg:=hg.trans (a.trans (u.trans z));go_wp2;exact MN
  have c:=O (f.out.eq (R':=(t.ds.l.drop 0).map (·.id)++(jr (hX t.nw.l)++n)) (by rw[GG X];rfl));have aC:=hg;go_wp2_with fail;go_loopw [3,7] (λs aD wr=>∃(m:Nat) (xs:QR),m<=t.ds.l.length/\aD=Y m/\Hid (JR w wr s xs ((t.ds.l.drop m).map (·.id)++(jr (hX t.nw.l)++n)) P)/\J [] af wr) (λ_ aD _=>t.ds.l.length-(intOf aD).toNat)
  case atStart=>exact⟨0,xs,L_ _,gn,c,hg⟩
  obtain⟨m,xs,hm,rfl,f,hg⟩:=hrel;have aL:=hg.f_ bJ H;by_cases h:m<t.ds.l.length
  .obtain⟨S,E,B,y,br,T,U,z⟩:=Dc df h;have c:=O (f.out.eq (R':=t.ds.l[m].id::((t.ds.l.drop (m+1)).map (·.id)++(jr (hX t.nw.l)++n))) (by rw[R_ h];rfl));replace y:=c.out.g.f_ y H;have R:=O (c.out.jo aX.out);generalize t.ds.l[m]=x at *;generalize t.ds.A=dA at *;subst B;go_wp2_with (go_at_call 65;refine R.out.mono ?_;rintro e ae⟨N,rfl,V,u⟩);have f:=O V;have hg:=hg.trans u;exact MN
  have c:=O (f.out.eq (R':=jr ((hX t.nw.l).drop 0)++n) (by rw[GG X];rfl));go_wp2_with fail;go_loopw [3,8,9] (λs G W wr=>∃(m:Nat) (xs:QR),m<=t.nw.l.length/\G=Y m/\Hid (JR w wr s xs (jr ((hX t.nw.l).drop m)++n) P)/\J [] af wr) (λ_ G _ _=>t.nw.l.length-(intOf G).toNat)
  case atStart=>exact⟨0,xs,L_ _,gn,c,hg⟩
  obtain⟨m,xs,hm,rfl,f,hg⟩:=hrel;have aF:=hg.f_ bB H;by_cases h:m<t.nw.l.length
  .obtain⟨S,E,B,y,br⟩:=bY.at_ h;obtain⟨hv,bl⟩:=bU _ (N_ h);have c:=O (f.out.eq (R':=jO (t.nw.l[m].o.fs.drop 0)++(jr ((hX t.nw.l).drop (m+1))++n)) (by
    rw[s5 (by rw[h5];exact h)];simp[hX]))
   obtain⟨aG,cg⟩:=mn_ (jr ((hX t.nw.l).drop (m+1))++n);rw[cg]at c;have bA:=O cg;have ak:=c.out.g.f_ br H;have aC:=hg;generalize t.nw.l[m]=z at *;generalize t.nw.A=aH at *;subst B;go_wp2_with fail;go_loopw [3,9] (λs W wr=>∃(d:Nat) (xs:QR),d<=z.o.fs.length/\W=Y d/\Hid (JR w wr s xs (jO (z.o.fs.drop d)++aG) P)/\J [] af wr) (λ_ W _=>z.o.fs.length-(intOf W).toNat)
   case atStart=>exact⟨0,xs,L_ _,gn,c,hg⟩
   obtain⟨d,xs,hj,rfl,f,hg⟩:=hrel;have aF:=hg.f_ bB H;have aR:=f.out.g.f_ br H;by_cases bC:d<z.o.fs.length
   .obtain⟨b3,bE,aI,p0,p1⟩:=hv.at_ bC;have c:=O (f.out.eq (R':=lr z.o.fs[d]++(jO (z.o.fs.drop (d+1))++aG)) (by rw[s4 bC];simp only[GE]));replace p0:=c.out.g.f_ p0 H;replace p1:=c.out.g.f_ p1 H;have R:=O (c.out.val aX.out);generalize z.o.fs[d]=v at *;generalize z.A=aO at *;subst aI;go_wp2_with (go_at_call 71;refine R.out.mono ?_;rintro e ae⟨N,rfl,V,u⟩);have f:=O V;have hg:=hg.trans u;go_roundw;exact⟨d+1,_,X,gn,f,hg⟩;exact mz
   have c:=O (f.out.eq (R':=jr ((hX t.nw.l).drop (m+1))++n) (by rw[GG X,bA.out];rfl));go_wp2;go_roundw;exact⟨m+1,_,X,gn,c,hg⟩;exact mz
  have c:=O (f.out.eq (R':=(ts.drop (k+1)).flatMap λt=>lj t.p) (by rw[GG (by rw[h5];omega),bi.out];rfl));go_wp2;go_roundw;exact⟨k+1,_,X,gn,c⟩;exact mz
 go_wp2;have c:=f.out;rw[GG X]at c;simp only[List.flatMap_nil]at c;obtain⟨A,j,rfl,n,p,d,g⟩:=c;simp only[Hv]at d;subst d;rw[ao.out];exact⟨A,j,rfl,n,p,g⟩
def D3(h:QQ)(x:Int):List Int:=match ke h x with|some o=>jO o.fs|none=>[]
def cst(h:QQ)(S:QR):Nat:=(jr (h.filter λo=> !decide (o.id∈S))).length
def xC(o:Ob)(h:QQ):jr (o::h)=jO o.fs++jr h:=rfl
def qT(o:Ob)(h:QQ)(S:QR):cst (o::h) S=(if o.id∈S then 0 else(jO o.fs).length)+cst h S:=by
 unfold cst;rw[Hr];by_cases c:o.id∈S;simp[c];simp only[c,decide_false,Bool.not_false,if_true,if_false,xC,I_]
def BD(h:QQ){S T:QR}(d:∀x∈S,x∈T):cst h T<=cst h S:=by
 induction h with
 |nil=>exact H_ _
 |cons a l f=>
  rw[qT,qT];by_cases c:a.id∈S;rw[U_ c,U_ (d _ c)];omega;rw[T_ c];split<;>omega
def BC{h:QQ}{S:QR}{o:Ob}(d:o∈h)(g:o.id∉S):cst h (S++[o.id])+(jO o.fs).length<=cst h S:=by
 induction h with
 |nil=>cases d
 |cons a l f=>
  rw[qT,qT];have j:=BD l (S:=S) (T:=S++[o.id]) λx c=>Gn _ c;rcases O_.1 d with rfl|d
  rw[U_ H,T_ g];omega;have f:=f d;by_cases c:a.id∈S;rw[U_ c,U_ (Gn _ c)];omega;rw[T_ c];split<;>omega
structure Wk(h:QQ)(rs vs td:QR)(i:Nat):Prop where
 eq:td=rs++vs.flatMap (D3 h)
 nd:vs.Nodup
 ids:∀x∈vs,x∈iQ h
 snd:∀x∈vs,uV h (· ∈rs) x
 seen:∀j x,j<i->td[j]?=some x->x∈iQ h->x∈vs
 cost:td.length+cst h vs<=rs.length+(jr h).length
def CT(h:QQ):cst h []=(jr h).length:=by
 unfold cst;rw[List.filter_eq_self.2 H]
def Wk.zero(h:QQ)(rs:QR):Wk h rs [] rs 0:=⟨by simp,ID,by simp,by simp,λd x c=>by omega,by rw[CT];omega⟩
def Wk.skip{h:QQ}{rs f:QR}(k:Wk h rs vs f i)(o:f[i]?=some x)(n:x∈iQ h->x∈vs):Wk h rs vs f (i+1):=
 ⟨k.eq,k.nd,k.ids,k.snd,λd p q c g=>by
  rcases Ga d i with j|j
  exact k.seen d p j c g;obtain rfl:d=i:=by omega
  rw[o]at c;injection c with c;subst c;exact n g,k.cost⟩
def Cy{h:QQ}{P:Int->Prop}{y:Int}(r:uV h P x)(hy:y∈D3 h x)(d:y∈iQ h):uV h P y:=by
 unfold D3 at hy;split at hy;rename_i n f;unfold jO at hy;obtain⟨o,g,rfl⟩:=Ge.1 hy;obtain⟨j,c⟩:=HK.1 g;exact .step r f j c d;cases hy
def Wk.visit{h:QQ}{rs f:QR}(k:Wk h rs vs f i){o:Ob}(j:f[i]?=some x)(p:ke h x=some o)(u:x∉vs):Wk h rs (vs++[x]) (f++jO o.fs) (i+1):=by
 have q:=vr p;have t:=oE p;have n:x∈iQ h:=Ge.2 ⟨o,t,q⟩;have y:i<f.length:=by
  rcases Ga i f.length with c|c
  exact c;rw[Gk c]at j;cases j
 have s:x∈f:=List.mem_of_getElem? j;refine⟨?_,?_,?_,?_,?_,?_⟩;have e:D3 h x=jO o.fs:=by unfold D3;rw[p]
 rw[Gs,k.eq];simp[e];rw[HJ];refine⟨k.nd,H4.2 ⟨List.not_mem_nil,ID⟩,λa r b v=>?_⟩;rw[J_.1 v];rintro rfl;exact u r;intro g d;rcases W_.1 d with c|c
 exact k.ids g c;rw[J_.1 c];exact n;intro g d;rcases W_.1 d with c|c
 exact k.snd g c;rw[J_.1 c];rw[k.eq]at s;rcases W_.1 s with r|r
 exact .root r n;obtain⟨D,z,v⟩:=HT.1 r;exact Cy (k.snd D z) v n;intro r g z d v;rcases Ga r i with c|c
 rw[GT X]at d;exact Gn _ (k.seen r g c d v);obtain rfl:r=i:=by omega
 rw[GT y,j]at d;injection d with d;subst d;exact Hn _ (J_.2 rfl);have hc:=BC (S:=vs) t (by rw[q];exact u);rw[q]at hc;have:=k.cost;rw[I_];omega
def Wk.done{h:QQ}{rs c:QR}(k:Wk h rs vs c i)(s:c.length<=i):kH vs=lk h rs:=by
 have d:∀x∈c,x∈iQ h->x∈vs:=λx p=>by
  obtain⟨q,o,e⟩:=IB.1 p;exact k.seen q x X (by rw[K_ o,e])
 refine(kG vs).eq ?_;have f:=jF h rs;refine⟨f.lt,λx=>(f.mem x).trans ⟨λr=>?_,λa=>k.snd x a⟩⟩;induction r with
 |root a b=>exact d _ (by rw[k.eq];exact Gn _ a) b
 |step a b j n e g=>
  refine d _ ?_ e;rw[k.eq];refine Hn _ (HT.2 ⟨_,g,?_⟩);unfold D3;rw[b];unfold jO;exact Ge.2 ⟨_,HK.2 ⟨j,n⟩,rfl⟩
def Sl.F3{w:World}{f n:Nat}{xs:QW}(h:Sl w e f A n xs)(p:0<n->∀b c,A=some (Z b c)->w'.heap[b]?=w.heap[b]?):Sl w' e f A n xs:=
 ⟨h.1,λd=>by
  obtain⟨b,c,g,j,hA,o,hc⟩:=h.2 d;exact⟨b,c,g,j,hA,by rw[p d b c hA];exact o,hc⟩⟩
def Sl.FB{w:World}{j n:Nat}{xs:QW}(h:Sl w e j A n xs)(f:0<n){b g:Nat}(hA:A=some (Z b g)):b<w.heap.size:=by
 obtain⟨o,r,p,q,c,d,hc⟩:=h.2 f;rw[hA]at c;injection c with e;injection e with aJ;subst aJ;exact kX d
def rD(w:World)(v:Value)(xs:QR)(g:Option Nat):Prop:=∃(A:OA) (c:Nat),v=.slice A xs.length c/\Ls w A xs/\xs.length<=c/\(0<xs.length->∀b off,A=some (Z b off)->some b≠g)
def rD.gr{w:World}{v:Value}{xs:QR}{g:Option Nat}(h:rD w v xs g)(k:J [] w w'):rD w' v xs g:=by
 obtain⟨A,d,f,j,n,c⟩:=h;exact⟨A,d,f,Sl.hF j k,n,c⟩
def rD.app{w:World}{v:Value}{xs:QR}{g j:Option Nat}(h:rD w v xs g)(s:w.grownBy w' g)(d:j=g∨j=some w.heap.size):rD w' v xs j:=by
 obtain⟨A,p,q,f,r,o⟩:=h;refine⟨A,p,q,Sl.F3 f λc b n hA=>s.block b (Sl.FB f c hA) (o c b n hA),r,λc b n hA=>?_⟩;rcases d with rfl|rfl
 exact o c b n hA;have:=Sl.FB f c hA;intro e;injection e with e;omega
def rD.jo{w:World}{v:Value}{g:Option Nat}{n:Int}(h:rD w v (kH vs) g)(z:∀k,g=some k->k<w.heap.size)(I:vs.length<=999999990):
 Calls prog 65 #[v,Y n] w λe w'=>∃p,e=.returned p/\rD w' p (kH (vs++[n])) g/\J [] w w':=by
 obtain⟨A,s,rfl,f,y,r⟩:=h;have L:(kH vs).length<=vs.length:=lz _ (kG vs).nodup λx D=>((kG vs).mem x).1 D;refine(tz A s (kH vs) n w f X y).mono ?_;unfold BX;rintro e w'⟨q,t,rfl,d,o,u,c⟩;rw[<-uw]at d o c|-;refine⟨_,rfl,⟨q,t,rfl,d,o,λj b F hA=>?_⟩,u⟩
 rcases c with⟨rfl,c⟩|c
 rw[c]at j;exact r j b F hA;intro e;have H:=z b e.symm;have f:=(World.ownsRow.lt c b (by rw[hA];rfl)).1;omega
def rD.has{w:World}{v:Value}{g:Option Nat}(h:rD w v (kH vs) g)(p:vs.length<=999999990)(n:Int):
 Calls prog 18 #[v,Y n] w λe w'=>e=.returned (.bool (decide (n∈vs)))/\w=w':=by
 obtain⟨A,c,rfl,d,o,j⟩:=h;have q:(kH vs).length<=vs.length:=lz _ (kG vs).nodup λx f=>((kG vs).mem x).1 f;have e:decide (n∈vs)=decide (n∈kH vs):=decide_eq_decide.2 ((kG vs).mem n).symm;rw[e];exact pY A c (kH vs) n w d X
def FF{m c:Nat}{xs news:QR}{w:World}{rest:QZ}{o:Oper}{s x:Operand}(ak:Zr base w B aB xs)(hr:Sl w C 1 A m (zs news))(hb:base<=w.heap.size)(hn:xs.length+m<=1000000000000)(h:∀(A':OA) (c':Nat) (w':World),Zr base w' A' c' (xs++news)->w.grownBy w' (Value.slice B n0 aB).ownBlock->((Value.slice A' (xs++news).length c').ownBlock=(Value.slice B n0 aB).ownBlock∨(Value.slice A' (xs++news).length c').ownBlock=some w.heap.size)->wpList prog ops Q rest (a.put o.dst (.slice A' (xs++news).length c')) w')(Nw:o.guard=none:=by rfl)(ho:o.op=.call {callee:=.builtin .append,args:=#[s,x],argTypes:=#[27,27]}:=by rfl)(hs:a.eval s=.slice B n0 aB:=by rfl)(hx:a.eval x=.slice A m c:=by rfl)(cg:xs.length=n0:=by first|rfl|(simp;done)):
 wpList prog ops Q (o::rest) a w:=by
 obtain⟨bu,bB,bt,a7,a6⟩:=info_parts infoI64;have hm:=by have:=hr.1;simpa using this
 subst cg;refine jZ Nw ho base 2 bu 1 8 underlying27 bB bt a7 a6 rfl I I B xs.length aB (zs xs) hs ak A m c (zs news) hx hr (w8) X hb λA' c' w' h1 h2 h3=>?_;have el:xs.length+m=(xs++news).length:=by rw[I_,hm]
 rw[el]at h1 h3|-;refine h A' c' w' ?_ h2 h3;unfold Zr;rw[zs,Gd];exact h1
def Bq(A:OA)(c:Nat)(l:QT)(id:Int)(w:World)(h:sC aQ w A l)(p:q0 E w l)(n:l.length<=1000000000):
 Calls prog 14 #[.agg #[.slice A l.length c],Y id] w λe w'=>∃(i:Int) (A':OA) (n' c':Nat),e=.returned (.tuple #[.agg #[Y i,.slice A' n' c'],.bool (ke (hX l) id).isSome])/\(∀o,ke (hX l) id=some o->n'=o.fs.length/\Vs w' A' o.fs)/\J [] w w':=by
 cases j:ke (hX l) id with
 |none=>exact(zE A c l id w h n j).mono λe w'⟨f,g⟩=>⟨0,none,0,0,f,(λo d=>by cases d),g⟩
 |some o=>exact(zD A c l id o w h p n j).mono λe w'⟨A',c',f,q,g⟩=>⟨o.id,A',o.fs.length,c',f,(λr d=>by injection d with d;subst d;exact⟨rfl,q⟩),g⟩
def Wk.len{h:QQ}{rs c:QR}(k:Wk h rs vs c i):vs.length<=h.length:=by
 have:=lz vs (l:=iQ h) k.nd k.ids;simpa[iQ]using this
def ze(a b:QA):jO (a++b)=jO a++jO b:=by simp[jO]
def t_(fs:QA)(k:Nat):(jO (fs.take k)).length<=(jO fs).length:=by
 have e:=Z_ (λl=>(jO l).length) (Hm k fs);simp only[ze,I_]at e;omega
def pA(hA:OA)(hc:Nat)(l:QT)(RA:OA)(ap:Nat)(rs:QR)(w:World)(V:sC aQ w hA l)(hR:q0 E w l)(hn:l.length<=999999990)(aE:Sl w aJ 1 RA rs.length (zs rs))(hB:rs.length+(jr (hX l)).length<=9999999990):
 Calls prog 36 #[.agg #[.slice hA l.length hc],.slice RA rs.length ap] w (jR (lk (hX l) rs) w):=by
 refine h6 λQ ao=>?_;obtain⟨f,al,aV,hg,Nv,an⟩:=box1 w 35 #[.slice hA l.length hc];have aR:f.cell? (Z al 0)=some (.slice hA l.length hc):=an.f_ 0;have am:=sC.hF V Nv;have cG:=hR.hF Nv;have bB:=Sl.hF aE Nv;have HG:=O (λ(w':World)(k:J [] f w')(id:Int)=>Bq hA hc l id w' (am.hF k) (cG.hF k) X);obtain⟨base,aG⟩:=nm_ f.heap.size;have bL:f.heap.size<=base:=X;have aL:base<=f.heap.size:=X;have be:=O (Wk.zero (hX l) rs);have B:=h5 l;have dE:=O (show ∀c∈hX l,c.fs.length<=1000000000 from λc ho=>by obtain⟨aA,v,rfl⟩:=Ge.1 ho;exact(hR aA v).2);generalize av:hX l=Nw at*;clear V hR aE am cG av aG;have z0:=pV f base 2 1 f.heap.size rfl aL;have bJ:=Sl.hF bB ((F_ [] f).alloc (.cells #[] 2));have bg:=(F_ [] f).alloc (.cells #[] 2);have aT:base<=(f.alloc (.cells #[] 2)).heap.size:=G_ aL bg.size;go_enter func36,ntmps36;go_wp2_with (at_builtin;refine FF (xs:=[]) z0 bJ aT p_ ?_;intro A1 c1 w1 a7 bq _);have aF:J [] f w1:=(App.iR z0 bq).gr [] f bL bg;rw[Gf]at a7;go_loopw [5,6,7] (λv5 bn aD wr=>∃(i:Nat) (vs td:QR) (aw:OA) (aj:Nat),i<=td.length/\aD=Y i/\bn=.slice aw td.length aj/\Hid (Wk Nw rs vs td i)/\Zr base wr aw aj td/\Hid (rD wr v5 (kH vs) (Value.slice aw td.length aj).ownBlock)/\J [] f wr) (λ_ _ aD _=>10000000000-(intOf aD).toNat)
 case atStart=>exact⟨0,[],rs,A1,c1,L_ _,gn,rfl,be,a7,O ⟨none,0,rfl,GU _ _ _ _,H_ _,λg=>by simp[kH]at g⟩,aF⟩
 clear be a7 aF z0 bJ bg aT bq;obtain⟨i,vs,td,aw,aj,hi,rfl,rfl,s,F,G,r⟩:=hrel;have bG:=s.out.cost;have b9:=s.out.len;by_cases ag:i<td.length
 .obtain⟨b,off,bd,bj⟩:=F.ls.at_ ag;subst bd;have aX:=r.f_ aR H;obtain⟨x,hx⟩:=nm_ td[i];have bl:=O (show td[i]?=some x by rw[K_ ag,hx]);rw[<-hx]at bj;clear hx;go_upto_region 6 with fail;go_cut [8,9] (λbf fl a8=>∃(g:Nat) (t:Int) (o:OA) (y p:Nat),bf=q_ g/\fl=.bool (ke Nw x).isSome/\Bk a8 g 56 #[Y t,.slice o y p]/\Hid (∀c,ke Nw x=some c->y=c.fs.length/\Vs a8 o c.fs)/\J [] wr a8)
  case first=>
   refine hN (λw'=>w'.cell? (Z al 0)=some (.slice hA l.length hc)/\w'.cell? (Z b (off+i))=some (Y x)) 12 k_ ?_;obtain⟨N,U⟩:=nm_ wr.drew;have P:=U▸(F_ [] wr).drew;rw[<-U];refine mC ⟨P.f_ aX H,P.f_ bj H⟩ λC=>?_;have M:=r.trans P;clear U aX bj;iterate 5 refine j2 C ?_
   refine Dy 5 9 (λK d=>?_) (λK d=>?_)
   .go_simp;go_at_call 14;refine(HG.out _ M x).mono ?_;rintro e L⟨t,o,y,p,rfl,m,q⟩;refine h4 d ⟨q.f_ C.1 H,q.f_ C.2 H⟩ λC=>?_;clear d K;iterate 3 refine j2 C ?_
    refine hY 9 λK d=>?_;go_simp;have W:=C;have S:=P_ L 56 #[Y 0,n_];have z:J [] L (L.alloc (.cells #[Y 0,n_] 56)):=(F_ [] L).alloc _;refine h4 d ⟨z.f_ C.1 H,z.f_ C.2 H⟩ λC=>?_;clear d K;refine hY 10 λK d=>?_;rw[U_ r_];refine ic 56 rfl L.heap.size r_ #[Y t,.slice o y p] r_ 56 S rfl k_ (by simp[Value.oneCell']) ?_;intro az T R;have D:=J.hI (z) R H;refine h4 d ⟨D.f_ W.1 H,D.f_ W.2 H⟩ λC=>?_;clear d K;refine ir 11 C ?_;refine hM k_ ?_ _;go_wp2;go_meet;exact⟨_,t,o,y,p,rfl,rfl,T,O λc g=>⟨(m c g).1,Sl.hF (m c g).2 D⟩,P.trans (q.trans D)⟩
   go_simp;have W:=C;have S:=P_ N 56 #[Y 0,n_];have z:J [] N (N.alloc (.cells #[Y 0,n_] 56)):=(F_ [] N).alloc _;refine h4 d ⟨z.f_ C.1 H,z.f_ C.2 H⟩ λC=>?_;clear d K;refine hY 5 λK d=>?_;go_simp;go_at_call 14;refine(HG.out _ (M.trans z) x).mono ?_;rintro e L⟨t,o,y,p,rfl,m,q⟩;refine h4 d ⟨q.f_ C.1 H,q.f_ C.2 H⟩ λC=>?_;clear d K;iterate 3 refine j2 C ?_
   refine hY 10 λK d=>?_;rw[U_ r_];refine ic 56 rfl N.heap.size r_ #[Y t,.slice o y p] r_ 56 (S.hF q) rfl k_ (by simp[Value.oneCell']) ?_;intro az T R;have D:=J.hI (z.trans q) R H;refine h4 d ⟨D.f_ W.1 H,D.f_ W.2 H⟩ λC=>?_;clear d K;refine ir 11 C ?_;refine hM k_ ?_ _;go_wp2;go_meet;exact⟨_,t,o,y,p,rfl,rfl,T,O λc g=>⟨(m c g).1,Sl.iq (m c g).2 (S.hF q) I R⟩,P.trans D⟩
  obtain⟨g,t,o,y,p,rfl,rfl,bu,m,U⟩:=hcut;clear aX;have dX:=F.hF U;have aq:=O (G.out.gr U);have u:=r.trans U;have k0:=U.f_ bj H;clear F G r U bj;cases z:ke Nw x with
  |none=>
   have bD:=O (s.out.skip bl.out (λhi=>by obtain⟨c,e⟩:=vp.1 hi;rw[z]at e;cases e));clear m z s;simp only[H3];go_wp2;exact LK
  |some c=>
   obtain⟨rfl,P⟩:=m.out c z;have W:=O (aq.out.has X x);simp only[Hz];by_cases N:x∈vs
   .rw[Gv N]at W;have bD:=O (s.out.skip bl.out (λ_=>N));clear m z s N;go_wp2_with (go_at_call 18;refine W.out.mono ?_;rintro e Nq⟨rfl,rfl⟩);exact LK
   rw[G6 N]at W;have aN:=O (aq.out.jo (n:=x) (λk hk=>(World.ownsRow.lt dX k hk).2) X);have aZ:=O (s.out.visit bl.out z N);have bw:=dE.out c (oE z);clear m z s N;go_wp2_with (first|(go_at_call 18;refine W.out.mono ?_;rintro e Nq⟨rfl,rfl⟩)|(go_at_call 65;refine aN.out.mono ?_;rintro e Nq⟨v5,rfl,af,T⟩));have br:=Zr.hF dX T;have S:=bu.hF T;have bh:=Sl.hF P T;have bk:=u.trans T;have Nr:=O af;have bN:=aZ.out.cost;have ah:Nq.cell? (Z g 1)=some (.slice o c.fs.length p):=S.f_ 1;have bM:td.length+(jO c.fs).length<=9999999990:=by rw[I_]at bN;omega
   clear dX aq bu P u af T W aN k0;go_loopw [6,10] (λbn bm wr=>∃(j:Nat) (a:QR) (aY:OA) (c3:Nat),j<=c.fs.length/\bm=Y j/\bn=.slice aY a.length c3/\Hid (a=td++jO (c.fs.take j))/\Zr base wr aY c3 a/\Hid (rD wr v5 (kH (vs++[x])) (Value.slice aY a.length c3).ownBlock)/\Bk wr g 56 #[Y t,.slice o c.fs.length p]/\Vs wr o c.fs/\J [] f wr) (λ_ bm _=>c.fs.length-(intOf bm).toNat)
   case atStart=>exact⟨0,td,some (Z b off),aj,L_ _,gn,rfl,O (by simp[jO]),br,Nr,S,bh,bk⟩
   clear br Nr S bh bk ah;obtain⟨j,a,aY,c3,hj,rfl,rfl,bv,F,G,bu,P,r⟩:=hrel;have ah:wr.cell? (Z g 1)=some (.slice o c.fs.length p):=bu.f_ 1;by_cases bC:j<c.fs.length
   .obtain⟨b3,bE,bx,p0,p1⟩:=P.at_ bC;have D:=O (show a++lr c.fs[j]=td++jO (c.fs.take (j+1)) by rw[bv.out,xB bC,GE];rfl);have bF:a.length+(lr c.fs[j]).length<=9999999990:=by
     have e:=Z_ List.length D.out;have h1:=t_ c.fs (j+1);simp only[I_]at e;omega
    generalize c.fs[j]=d at*;subst bx;obtain⟨a2,c6,bI,bH,R,bO⟩:=box1 wr 38 #[.bool d.r,Y d.n];obtain⟨v0,v1⟩:=bO.iA;have a6:=Zr.hF F R;have aS:=O (G.out.gr R);have aU:=bu.hF R;have Nt:=Sl.hF P R;have ay:=r.trans R;clear bv F G r P;cases v:d.r with
    |false=>
     have q:=O (show lr d=[] by unfold lr isRef;rw[v];rfl);have h:=O (show a=td++jO (c.fs.take (j+1)) by rw[<-D.out,q.out,Hv]);rw[v]at p0 v0 bI;clear v bO q D;exact LS
    |true=>
     rw[v]at p0 v0 bI;by_cases h0:d.n=0;have bz:(d.n !=0)=false:=by simp[h0]
     have q:=O (show lr d=[] by unfold lr isRef;rw[bz,IE];rfl);have h:=O (show a=td++jO (c.fs.take (j+1)) by rw[<-D.out,q.out,Hv]);clear v bO q D h0;exact LS;have bz:(d.n !=0)=true:=by simp[h0]
     have q:=O (show lr d=[d.n] by unfold lr isRef;rw[bz,v];rfl);rw[q.out]at D bF;have bA:a.length+1<=1000000000000:=by simp only[Y_,Gz]at bF;omega
     have L:=(F_ [] a2).alloc (.cells #[Y d.n] 2);have bp:=Zr.hF a6 L;have bP:=O (aS.out.gr L);have bo:=aU.hF L;have aB:=Sl.hF Nt L;have M:=ay.trans L;have bQ:=Ls.one a2 d.n;have bR:base<=(a2.alloc (.cells #[Y d.n] 2)).heap.size:=G_ aL M.size;clear v q h0 a6 aS aU Nt bO L;go_wp2_with (at_builtin;refine FF bp bQ bR bA ?_;intro aW c5 Nq br aI bT);have bU:=App.iR bp aI;have Nr:=O (bP.out.app aI bT);have S:=bU.bk bo I;have bh:=bU.sl aB I;have bk:=bU.gr [] f bL M;have h:=O D.out;clear bp bP bo aB M bU aI bT;go_wp2;go_roundw;exact⟨j+1,a++[d.n],aW,c5,X,gn,by rw[I_];rfl,h,br,Nr,S,bh,bk⟩;exact mz
   have q:=O (show a=td++jO c.fs by rw[bv.out,F7 X]);go_wp2;go_roundw
   case rel=>
    have e:=q.out;subst e;exact⟨i+1,vs++[x],_,aY,c3,by rw[I_];omega,gn,rfl,aZ,F,G,r⟩
   case measure=>exact mz
 have d:=O (s.out.done X);go_wp2;obtain⟨A,o,rfl,p,q,_⟩:=G.out;rw[ao.out,<-d.out];exact⟨A,o,rfl,p,q,Nv.trans r⟩



def Ai(x y:Vl)(w:World)(h:x=y):(binOp .neq 38 (.agg (V_ x)) (.agg (V_ y))).run prog w=.ok (.bool false) w:=by
 subst h;obtain⟨d,c⟩:=x;go_simp
def D2(A B:OA)(c d:Nat)(l:QA)(w:World)(h:Vs w A l)(k:Vs w B l)(I:l.length<=1000000000):
 Calls prog 38 #[.slice A l.length c,.slice B l.length d] w λe w'=>e=.returned (.bool true)/\J [] w w':=by
 refine h6 λQ y=>?_;go_enter func38,ntmps38;go_wp2;go_loopw [13] (λn wr=>∃i:Nat,i<=l.length/\n=Y i/\J [] w wr) (λn _=>l.length-(intOf n).toNat)
 case atStart=>exact⟨0,L_ _,gn,F_ _ _⟩
 obtain⟨i,F,rfl,j⟩:=hrel;by_cases o:i<l.length
 .obtain⟨b,r,hA,s,t⟩:=(show Vs wr A l from Sl.hF h j).at_ o;obtain⟨q,E,z,p,u⟩:=(show Vs wr B l from Sl.hF k j).at_ o;subst hA;subst z;generalize l[i]=f at*
  have D:=λv=>Ai f f v rfl;go_upto_region 6 with fail;refine hN (λw'=>w'.cell? (Z b (r+i*2))=some (.bool f.r)/\w'.cell? (Z b (r+i*2+1))=some (Y f.n)/\w'.cell? (Z q (E+i*2))=some (.bool f.r)/\w'.cell? (Z q (E+i*2+1))=some (Y f.n)) 9 k_ ?_;have g:J [] wr wr.drew:=(F_ [] wr).drew;refine mC ⟨g.f_ s H,g.f_ t H,g.f_ p H,g.f_ u H⟩ λC=>?_;clear s t p u;refine ir 0 C ?_;refine ir 1 C ?_;refine ir 2 C ?_;refine ir 3 C ?_;refine ir 4 C ?_;refine ir 5 C ?_;refine ir 6 C ?_;refine ir 7 C ?_;refine ir 8 C ?_;refine hM k_ ?_ _;go_wp2;go_roundw;exact⟨i+1,X,gn,j.trans g⟩;exact mz
 go_wp2;rw[y.out];exact⟨rfl,j⟩
def AH(A B:OA)(c d:Nat)(i:Int)(l:QA)(w:World)(h:Vs w A l)(k:Vs w B l)(hl:l.length<=1000000000):
 Calls prog 109 #[.agg #[Y i,.slice A l.length c],.agg #[Y i,.slice B l.length d]] w λe w'=>e=.returned (.bool true)/\J [] w w':=by
 refine h6 λQ P=>?_;obtain⟨o,T,O,aV,hg,W,n,U,R⟩:=tP w 56 #[Y i,.slice A l.length c] 56 #[Y i,.slice B l.length d];obtain⟨N,y⟩:=U.iA;obtain⟨V,u⟩:=R.iA;have hA:=Sl.hF h n;have L:=Sl.hF k n;go_enter func109,ntmps109;go_wp2;go_loopw [23] (λq wr=>∃i:Nat,i<=l.length/\q=Y i/\J [] o wr) (λq _=>l.length-(intOf q).toNat)
 case atStart=>exact⟨0,L_ _,gn,F_ _ _⟩
 obtain⟨i,hi,rfl,g⟩:=hrel;by_cases v:i<l.length
 .obtain⟨b,s,S,D,F⟩:=(show Vs wr A l from Sl.hF hA g).at_ v;obtain⟨r,E,M,z,I⟩:=(show Vs wr B l from Sl.hF L g).at_ v;have p:=g.f_ y H;have t:=g.f_ u H;rw[S]at p;rw[M]at t;generalize l[i]=j at*
  have ar:=λo=>Ai j j o rfl;go_upto_region 6 with fail;refine hN (λw'=>w'.cell? (Z b (s+i*2))=some (.bool j.r)/\w'.cell? (Z b (s+i*2+1))=some (Y j.n)/\w'.cell? (Z r (E+i*2))=some (.bool j.r)/\w'.cell? (Z r (E+i*2+1))=some (Y j.n)/\w'.cell? (Z T 1)=some (.slice (some (Z b s)) l.length c)/\w'.cell? (Z O 1)=some (.slice (some (Z r E)) l.length d)) 11 k_ ?_;have f:J [] wr wr.drew:=(F_ [] wr).drew;refine mC ⟨f.f_ D H,f.f_ F H,f.f_ z H,f.f_ I H,f.f_ p H,f.f_ t H⟩ λC=>?_;clear D F z I p t N y V u;refine ir 0 C ?_;refine ir 1 C ?_;refine ir 2 C ?_;refine ir 3 C ?_;refine ir 4 C ?_;refine ir 5 C ?_;refine ir 6 C ?_;refine ir 7 C ?_;refine ir 8 C ?_;refine ir 9 C ?_;refine ir 10 C ?_;refine hM k_ ?_ _;go_wp2;go_roundw;exact⟨i+1,X,gn,g.trans f⟩;exact mz
 go_wp2;rw[P.out];exact⟨rfl,n.trans g⟩
def y9(A B:OA)(c d:Nat)(l k:QT)(w:World)(V:Os w A l)(hR:l5 w l)(af:Os w B k)(m:l5 w k)(I:hX l=hX k)(hl:l.length<=1000000000):
 Calls prog 72 #[.slice A l.length c,.slice B l.length d] w λe w'=>e=.returned (.bool true)/\J [] w w':=by
 refine h6 λQ U=>?_;have b5:k.length=l.length:=by rw[<-h5,<-h5,I]
 have R:=O (show ∀(i:Nat) (D:i<l.length) (F:i<k.length),k[i].o=l[i].o from λi D F=>by
  have e:(hX l)[i]?=(hX k)[i]?:=by rw[I]
  simp[hX,K_ D,K_ F]at e;exact e.symm)
 go_enter func72,ntmps72;go_wp2;go_loopw [13] (λq wr=>∃i:Nat,i<=l.length/\q=Y i/\J [] w wr) (λq _=>l.length-(intOf q).toNat)
 case atStart=>exact⟨0,L_ _,gn,F_ _ _⟩
 obtain⟨i,hi,rfl,g⟩:=hrel;by_cases p:i<l.length
 .obtain⟨b,M,bo,N,P⟩:=(show Os wr A l from Sl.hF V g).at_ p;have a:i<k.length:=X;obtain⟨v,E,T,r,s⟩:=(show Os wr B k from Sl.hF af g).at_ a;subst bo;subst T;obtain⟨hv,W⟩:=hR.hF g _ (N_ p);obtain⟨z, -⟩:=m.hF g _ (N_ a);rw[R.out i p a]at r s z;generalize k[i].A=L at*;generalize k[i].c=y at*;generalize l[i]=f at*;have u:=O (λ(w':World)(h:J [] wr w')=>AH f.A L f.c y f.o.id f.o.fs w' (Sl.hF hv h) (Sl.hF z h) W);go_upto_region 6 with fail;refine hN (λw'=>w'.cell? (Z b (M+i*2))=some (Y f.o.id)/\w'.cell? (Z b (M+i*2+1))=some (.slice f.A f.o.fs.length f.c)/\w'.cell? (Z v (E+i*2))=some (Y f.o.id)/\w'.cell? (Z v (E+i*2+1))=some (.slice L f.o.fs.length y)) 10 k_ ?_;have j:J [] wr wr.drew:=(F_ [] wr).drew;refine mC ⟨j.f_ N H,j.f_ P H,j.f_ r H,j.f_ s H⟩ λC=>?_;have S:=O (u.out _ j);clear N P r s u;(iterate 8 refine j2 C ?_);refine hY 8 λK t=>?_;go_simp;go_at_call 109;refine S.out.mono ?_;rintro e ae⟨rfl,n⟩;refine h4 t ⟨n.f_ C.1 H,n.f_ C.2.1 H,n.f_ C.2.2.1 H,n.f_ C.2.2.2 H⟩ λC=>?_;clear t K;refine ir 9 C ?_;refine hM k_ ?_ _;go_wp2;go_roundw;exact⟨i+1,X,gn,(g.trans j).trans n⟩;exact mz
 go_wp2;rw[U.out];exact⟨rfl,g⟩
def y_(A B:OA)(c d:Nat)(l k:QT)(w:World)(V:Os w A l)(s:l5 w l)(u:Os w B k)(m:l5 w k)(g:hX l=hX k)(t:l.length<=1000000000):
 Calls prog 30 #[.agg #[.slice A l.length c],.agg #[.slice B k.length d]] w λe w'=>e=.returned (.bool true)/\J [] w w':=by
 have p:k.length=l.length:=by rw[<-h5,<-h5,g]
 rw[p];refine h6 λQ o=>?_;obtain⟨h,H,z,D,I,v,f,r,q⟩:=tP w 35 #[.slice A l.length c] 35 #[.slice B l.length d];have y:=r.f_ 0;have L:=q.f_ 0;have j:=O (y9 A B c d l k h (Sl.hF V f) (s.hF f) (Sl.hF u f) (m.hF f) g t);go_enter func30,ntmps30;go_wp2_with (go_at_call 72;refine j.out.mono ?_;rintro e F⟨rfl,n⟩);rw[o.out];exact⟨rfl,f.trans n⟩
def E3(w:World)(r:Rw):Sl (w.alloc (.cells #[Y r.o.id,.slice r.A r.o.fs.length r.c] 56)) 56 2 (j_ w.heap.size) 1 (iT [r]):=
 ⟨rfl,λ_=>⟨_,0,#[Y r.o.id,.slice r.A r.o.fs.length r.c],_,rfl,P_ w _ _,λd f c=>by simpa[iT,Rw.E]using c⟩⟩
def FO{c:Nat}{xs:QT}{w:World}{g:Nat}{r:Rw}{o:Oper}{E:Prop}{s x:Operand}(ak:w.ownsRow base 56 2 (.slice B xs.length aB) xs.length (iT xs))(hr:Sl w 56 2 (j_ g) 1 (iT [r]))(hb:base<=w.heap.size)(hn:xs.length<=1000000000)(h:∀(A':OA) (c':Nat) (w':World),w'.ownsRow base 56 2 (.slice A' (xs++[r]).length c') (xs++[r]).length (iT (xs++[r]))->App base 56 w w'->(∀k,k<w.heap.size->some k≠(Value.slice B xs.length aB).ownBlock->w'.heap[k]?=w.heap[k]?)->K (a.put o.dst (.slice A' (n0+1) c')) w')(Nw:o.guard=none:=by rfl)(ho:o.op=.call {callee:=.builtin .append,args:=#[s,x],argTypes:=#[33,33]}:=by rfl)(hs:a.eval s=.slice B n0 aB:=by rfl)(hx:a.eval x=.slice (j_ g) 1 c:=by rfl)(cg:xs.length=n0:=by first|rfl|(simp;done)):
 if Region.wanted o (yielded ops a.tmps)=true then Oper.wp prog o a w K Q else E:=by
 obtain⟨bu,bB,bt,a7,a6⟩:=info_parts infoOb;subst cg;have aD:Region.wanted o (yielded ops a.tmps)=true:=by simp[Region.wanted,Nw]
 rw[U_ aD];obtain⟨d,he,j⟩:=hr.m7 X;injection he with he;subst he;obtain⟨v',w',L,h2,h3,_⟩:=run_append_own (P:=prog) w base 33 o.type 56 bu _ 2 32 underlying33 bB bt a7 a6 rfl I _ xs.length (iT xs) ak (Z g 0) 1 c (iT [r]) rfl j (jA [r]) (by simp only[maxLen];omega) X hb;have hf:∃A' c',v'=.slice A' (xs.length+1) c':=LB;obtain⟨A',c',rfl⟩:=hf;unfold Oper.wp execOp;simp only[ho,resolve,invoke,builtin,Sem.run_bind,Sem.run_pure,Result.andThen_ok,Hw,Gx,Hf,hs,hx,L];refine h A' c' w' ?_ (App.iR ak h3) h3.block;rw[I_,ld];exact h2
def uT(h:QQ)(n:Nat)(w:World)(e:Ending)(w':World):Prop:=∃(A':OA) (c':Nat) (l':QT),e=.returned (.agg #[.slice A' l'.length c'])/\hX l'=h/\Os w' A' l'/\l5 w' l'/\l'.length<=n/\J [] w w'
section
variable{hA TA:OA}{hc tc:Nat}{l:QT}{ts:QB}{w:World}
def uM(P:HM w hA l)(t:TM w TA ts):
 Calls prog 31 #[.agg #[.slice hA l.length hc],.slice TA ts.length tc] w (uT (uL (hX l) (ts.map Tk.p)) l.length w):=by
 refine h6 λQ v=>?_;obtain⟨T,X,f,U,Y,R,j,F,z⟩:=tP w 35 #[.slice hA l.length hc] 35 #[n_];have S:=F.f_ 0;have u:=O (wm (hc:=hc) (tc:=tc) (rb:=true) (P.hF j) (t.hF j));go_enter func31,ntmps31;go_wp2_with fail;go_at_call 73;refine u.out.mono ?_;rintro e n⟨d,c1,g,rfl,L,E,o,y,q⟩;have c:=z.hF q;have W:=c.f_ 0;have V:=c.hG 0;go_wp2;have D:=c.hU 0 (.slice d g.length c1);have h:J [f] n (n.setCell (Z f 0) (.slice d g.length c1)):=(F_ [f] n).setCell (p:=Z f 0) (.inl H) _;refine rr_ #[.slice d g.length c1] D underlying35 ?_;rw[v.out];refine⟨d,c1,g,rfl,?_,Sl.iq E c I h,λs r=>⟨Sl.iq (o s r).1 c I h,(o s r).2⟩,y,(j.trans q).hI h (λad M=>.inr (by rw[J_]at M;omega))⟩;rw[L];unfold uL;refine List.filter_congr λN _=>?_;unfold s8;cases decide (N.id∈mD (hX l) (ts.map Tk.p))<;>rfl
def uG(N:HM w hA l)(R:TM w TA ts):
 Calls prog 33 #[.agg #[.slice hA l.length hc],.slice TA ts.length tc] w (jR (qa (hX l) (ts.map Tk.p)) w):=by
 refine h6 λQ U=>?_;obtain⟨ad,ae,aV,hg,r,hB⟩:=box1 w 35 #[.slice hA l.length hc];have af:=hB.f_ 0;have ah:=N.len;have v:=O (wm (hc:=hc) (tc:=tc) (rb:=false) (N.hF r) (R.hF r));have m:=O (show ∀c:List Rw,hX c=(hX l).filter (s8 (hX l) (ts.map Tk.p) false)->(hX c).map (·.id)=qa (hX l) (ts.map Tk.p) from λc ak=>by
  rw[ak];unfold qa;congr 1;refine List.filter_congr λo _=>?_;unfold s8;cases decide (o.id∈mD (hX l) (ts.map Tk.p))<;>rfl)
 go_enter func33,ntmps33;go_wp2_with fail;go_at_call 73;refine v.out.mono ?_;rintro e g⟨A1,c1,c,rfl,M,E,al,bF,hg1⟩;have P:=O (m.out c M);have S:=r.trans hg1;have L:Zr g.heap.size g none 0 []:=Zr.nil;clear M al m v;generalize qa (hX l) (ts.map Tk.p)=gs at*
 go_wp2_with fail;go_loopw [5,12] (λov s wr=>∃(i:Nat) (f:QR) (j:OA) (n:Nat),i<=c.length/\s=Y i/\ov=.slice j f.length n/\Hid (f=((hX c).take i).map (·.id))/\f.length<=i/\Zr g.heap.size wr j n f/\J [] g wr) (λ_ s _=>c.length-(intOf s).toNat)
 case atStart=>exact⟨0,[],none,0,L_ _,gn,rfl,O rfl,H_ _,L,F_ _ _⟩
 clear L;obtain⟨i,f,j,n,hi,rfl,rfl,D,am,p,h⟩:=hrel;by_cases z:i<c.length
 .obtain⟨b,off,Z,bj,bn⟩:=(E.hF h).at_ z;subst Z;have a:=O (show f++[c[i].o.id]=((hX c).take (i+1)).map (·.id) by
   rw[Q_ (by rw[h5];exact z),Gd,D.out];simp[hX])
  generalize c[i]=d at*;obtain⟨u,gb,bI,aD,t,F⟩:=box1 wr 56 #[Y d.o.id,.slice d.A d.o.fs.length d.c];have z0:=F.f_ 0;have y:=(F_ [] u).alloc (.cells #[Y d.o.id] 2);have d7:=(p.hF t).hF y;have I:=(h.trans t).trans y;have cD:=I.size;clear F p h t;go_wp2_with (at_builtin;refine CZ d7 (Ls.one u d.o.id) cD p_ ?_;intro V T Nq br an);have W:=an.gr [] g (H_ _) I;go_roundw;exact⟨i+1,f++[d.o.id],V,T,X,gn,H,a,p_,br,W⟩;exact mz
 go_wp2;rw[U.out];have e:=D.out;rw[F7 (by rw[h5];omega),P.out]at e;subst e;exact⟨j,n,rfl,p.ls,iY p,S.trans h⟩
end
def Bv(l:QT)(p:Int->Bool):hX (l.filter λr=>p r.o.id)=(hX l).filter λo=>p o.id:=by
 unfold hX;rw[List.filter_map];rfl
def x0{hA TA:OA}{hc tc n:Nat}{l:QT}{rs:QR}{w:World}(V:Os w hA l)(hR:l5 w l)(hn:l.length<=50000000)(m:∀w',J [] w w'->Calls prog 29 #[.slice TA n tc] w' (jR rs w'))(hB:rs.length+(jr (hX l)).length<=9999999990):
 Calls prog 32 #[.agg #[.slice hA l.length hc],.slice TA n tc] w (uT ((hX l).filter λo=>decide (o.id∈lk (hX l) rs)) l.length w):=by
 refine h6 λQ ao=>?_;obtain⟨j,af,F,aV,hg,ad,R,ai,bR⟩:=tP w 35 #[.slice hA l.length hc] 35 #[n_];have am:Os j hA l:=Sl.hF V R;have cG:l5 j l:=hR.hF R;have bB:=O (λ(w':World)(k:J [] j w')=>m w' (R.trans k));have aK:=O (λ(w':World)(k:J [] j w')(A:OA)(ak:Nat)(h:Ls w' A rs)=>pA hA hc l A ak rs w' (Os.e (Sl.hF am k)) (l5.e (cG.hF k)) X h hB);have aE:(lk (hX l) rs).length<=50000000:=by
  have:=lz _ (l:=iQ (hX l)) (jF (hX l) rs).nodup λx hx=>(((jF (hX l) rs).mem x).1 hx).ids;unfold iQ at this;rw[Gg,h5]at this;omega
 rw[<-Bv l (λx=>decide (x∈lk (hX l) rs))]at ao;generalize lk (hX l) rs=a at*;have aR:j.cell? (Z af 0)=some (.slice hA l.length hc):=ai.f_ 0;obtain⟨base,aG⟩:=nm_ j.heap.size;have bL:base<=j.heap.size:=X;have aL:j.heap.size<=base:=X;clear V hR hB m aG;go_enter func32,ntmps32;go_upto_region 1 with fail;refine hN (λw'=>w'.cell? (Z af 0)=some (.slice hA l.length hc)) 5 k_ ?_;obtain⟨ar,ce⟩:=nm_ j.drew;have f:=ce▸(F_ [] j).drew;rw[<-ce];refine mC (f.f_ aR H) λC=>?_;clear ce;refine ir 0 C ?_;refine ir 1 C ?_;refine hY 2 λK g=>?_;go_simp;go_at_call 29;refine(bB.out ar f).mono ?_;unfold jR;rintro e ae⟨B,aB,rfl,h0,-,M⟩;refine h4 g (M.f_ C H) λC=>?_;clear g K;refine hY 3 λK g=>?_;go_simp;go_at_call 36;refine(aK.out ae (f.trans M) B aB h0).mono ?_;unfold jR;rintro e Nq⟨A1,c1,rfl,h1,-,hg1⟩;refine h4 g (hg1.f_ C H) λC=>?_;clear g K;refine ir 4 C ?_;refine hM k_ ?_ _;obtain⟨al,t,b6,aP,Nw,z⟩:=box1 Nq 35 #[n_];have an:=f.trans (M.trans (hg1.trans Nw));have bO:Ls al A1 a:=Sl.hF h1 Nw;have cr:base<=t:=ov ((f.trans (M.trans hg1)).size);clear bB aK C h0 h1 M hg1 f Nw;go_wp2_with fail;go_loopw [7] (λaq wr=>∃(k:Nat) (d:QT) (s:OA) (r:Nat),k<=l.length/\aq=Y k/\Hid (d=(l.take k).filter λc=>decide (c.o.id∈a))/\Bk wr t 35 #[.slice s d.length r]/\wr.ownsRow base 56 2 (.slice s d.length r) d.length (iT d)/\J [] j wr/\Fx base [35,56] al wr) (λaq _=>l.length-(intOf aq).toNat)
 case atStart=>exact⟨0,[],none,0,L_ _,gn,O H,z,iS _ _ _ _,an,.jD (F_ _ _)⟩
 clear z an;obtain⟨k,d,s,r,hk,rfl,L,z,hz,v,ap⟩:=hrel;have b1:=v.f_ aR H;by_cases S:k<l.length
 .obtain⟨b,off,bo,bj,bn⟩:=am.at_ S;have au:Ls wr A1 a:=ap.sl bO;have N:=O (pY A1 c1 a l[k].o.id wr au X);have i:=O (show(l.take (k+1)).filter (λc=>decide (c.o.id∈a))=d++(if decide (l[k].o.id∈a)=true then[l[k]] else[]) by
   rw[Q_ S,HH,L.out,Hr];rfl)
  generalize l[k]=c at*;subst bo;have E:=v.f_ bj H;have G:=v.f_ bn H;clear au;cases f:decide (c.o.id∈a)with
  |false=>
   rw[f]at N i;have a8:=O (show d=(l.take (k+1)).filter λc=>decide (c.o.id∈a) by rw[i.out];simp);clear f i;go_wp2_with (go_at_call 18;refine N.out.mono ?_;rintro e az⟨rfl,rfl⟩);go_roundw;exact⟨k+1,d,s,r,X,gn,a8,z,hz,v,ap⟩;exact mz
  |true=>
   rw[f]at N i;have a8:=O (show d++[c]=(l.take (k+1)).filter λc=>decide (c.o.id∈a) by rw[i.out];rfl);have b9:d.length<=k:=by
    have e:=Z_ List.length L.out;have:=GC (λc:Rw=>decide (c.o.id∈a)) (l.take k);rw[e];rw[Gp]at this;omega
   clear f i L;have z0:wr.cell? (Z t 0)=some (.slice s d.length r):=z.f_ 0;go_upto_region 7 with(go_at_call 18;refine N.out.mono ?_;rintro e az⟨rfl,rfl⟩);refine hN (λw'=>w'.cell? (Z t 0)=some (.slice s d.length r)/\w'.cell? (Z af 0)=some (.slice (some (Z b off)) l.length hc)/\w'.cell? (Z b (off+k*2))=some (Y c.o.id)/\w'.cell? (Z b (off+k*2+1))=some (.slice c.A c.o.fs.length c.c)) 10 k_ ?_;obtain⟨P,ax⟩:=nm_ wr.drew;have f:=ax▸(F_ [] wr).drew;rw[<-ax];refine mC ⟨f.f_ z0 H,f.f_ b1 H,f.f_ E H,f.f_ G H⟩ λC=>?_;have av:=z.hF f;have br:=iD hz f;have aw:=v.trans f;have Nt:=ap.trans (.jD f);clear ax z hz v ap f b1 E G z0 N;refine ir 0 C ?_;refine ir 1 C ?_;refine ir 2 C ?_;refine ir 3 C ?_;refine ir 4 C ?_;refine ir 5 C ?_;refine ir 6 C ?_;refine hY 7 λK g=>?_;go_simp;have ay:=E3 P c;have u:J [] P (P.alloc (.cells #[Y c.o.id,.slice c.A c.o.fs.length c.c] 56)):=(F_ [] P).alloc _;refine h4 g ⟨u.f_ C.1 H,u.f_ C.2.1 H,u.f_ C.2.2.1 H,u.f_ C.2.2.2 H⟩ λC=>?_;clear g K;have aJ:=iD br u;have cD:base<=(P.alloc (.cells #[Y c.o.id,.slice c.A c.o.fs.length c.c] 56)).heap.size:=G_ bL (aw.trans u).size;refine hY 8 λK g=>?_;refine FO aJ ay cD X ?_;intro T cq U ei aA _;have D:=aA.bk (av.hF u) I;have aC:=aA.gr [] j aL (aw.trans u);refine h4 g ⟨D.f_ 0,aC.f_ aR H,aC.f_ bj H,aC.f_ bn H⟩ λC=>?_;clear g K;refine ir 9 C ?_;refine hY 10 λK g=>?_;have bz:=D.f_ 0;have ah:=D.hG 0;go_simp;have y:J [t] U (U.setCell (Z t 0) (.slice T (d.length+1) cq)):=(F_ [t] U).setCell (p:=Z t 0) (.inl H) _;have W:=D.hU 0 (.slice T (d.length+1) cq);obtain⟨aZ,a6⟩:=mn_ (U.setCell (Z t 0) (.slice T (d.length+1) cq));rw[a6]at y W;rw[a6];refine g.out _ _ (λS=>Gc S I) ?_;clear g K;refine hM k_ ?_ _;go_wp2;go_roundw;exact⟨k+1,d++[c],T,cq,X,gn,a8,by simpa using W,j9 ei D I y,aC.hI y (λaD hy=>.inr (by rw[J_]at hy;omega)),Nt.trans (((Fx.jD u).trans (.app aA H)).trans (.one y D cr H))⟩;exact mz
 have a8:=O (show d=l.filter λc=>decide (c.o.id∈a) by rw[L.out,F7 X]);clear L;have P:t≠F:=by have:=bR.lt;have:=aL;omega
 have q:=bR.hF v;have bz:wr.cell? (Z t 0)=some (.slice s d.length r):=z.f_ 0;have T:=q.f_ 0;have U:=q.hG 0;have y:J [F] wr (wr.setCell (Z F 0) (.slice s d.length r)):=(F_ [F] wr).setCell (p:=Z F 0) (.inl H) _;have W:=q.hU 0 (.slice s d.length r);have D:l5 wr d:=λc u=>cG.hF v c (by rw[a8.out]at u;exact(HK.1 u).1);have N:d.length<=l.length:=by rw[a8.out];exact GC _ _
 go_wp2;refine rr_ #[.slice s d.length r] W underlying35 ?_;rw[ao.out];exact⟨s,r,d,rfl,by rw[a8.out],Sl.iq (Sl.iP hz) q I y,λc u=>⟨Sl.iq (D c u).1 q I y,(D c u).2⟩,N,(R.trans v).hI y (λaD hy=>.inr (by rw[J_]at hy;omega))⟩
def xR{hA TA:OA}{hc tc n:Nat}{l:QT}{rs:QR}{w:World}(V:Os w hA l)(W:l5 w l)(hn:l.length<=50000000)(m:∀w',J [] w w'->Calls prog 29 #[.slice TA n tc] w' (jR rs w'))(U:rs.length+(jr (hX l)).length<=9999999990):
 Calls prog 34 #[.agg #[.slice hA l.length hc],.slice TA n tc] w (jR (((hX l).filter λo=> !decide (o.id∈lk (hX l) rs)).map (·.id)) w):=by
 refine h6 λQ ao=>?_;obtain⟨d,T,aV,hg,s,ad⟩:=box1 w 35 #[.slice hA l.length hc];have S:Os d hA l:=Sl.hF V s;have cG:l5 d l:=W.hF s;have bB:=O (λ(w':World)(k:J [] d w')=>m w' (s.trans k));have aK:=O (λ(w':World)(k:J [] d w')(A:OA)(af:Nat)(h:Ls w' A rs)=>pA hA hc l A af rs w' (Os.e (Sl.hF S k)) (l5.e (cG.hF k)) (by omega) h U);have aE:(lk (hX l) rs).length<=50000000:=by
  have:=lz _ (l:=iQ (hX l)) (jF (hX l) rs).nodup λx hx=>(((jF (hX l) rs).mem x).1 hx).ids;unfold iQ at this;rw[Gg,h5]at this;omega
 generalize lk (hX l) rs=a at *;have P:d.cell? (Z T 0)=some (.slice hA l.length hc):=ad.f_ 0;obtain⟨base,aG⟩:=nm_ d.heap.size;have bL:base<=d.heap.size:=by omega
 have aL:d.heap.size<=base:=by omega
 clear V W U m aG;go_enter func34,ntmps34;go_upto_region 1 with fail;refine hN (λw'=>w'.cell? (Z T 0)=some (.slice hA l.length hc)) 5 k_ ?_;obtain⟨ar,F⟩:=nm_ d.drew;have f:=F▸(F_ [] d).drew;rw[<-F];refine mC (f.f_ P H) λC=>?_;clear F;refine ir 0 C ?_;refine ir 1 C ?_;refine hY 2 λK y=>?_;go_simp;go_at_call 29;refine(bB.out ar f).mono ?_;unfold jR;rintro e ae⟨B,aB,rfl,h0,-,z⟩;refine h4 y (z.f_ C H) λC=>?_;refine hY 3 λK y=>?_;go_simp;go_at_call 36;refine(aK.out ae (f.trans z) B aB h0).mono ?_;unfold jR;rintro e v⟨L,c1,rfl,h1,-,hg1⟩;refine h4 y (hg1.f_ C H) λC=>?_;refine ir 4 C ?_;refine hM k_ ?_ _;have ah:=f.trans (z.trans hg1);go_wp2_with fail;go_loopw [6,7] (λov D wr=>∃(k:Nat) (c:QR) (p:OA) (j:Nat),k<=l.length/\D=Y k/\ov=.slice p c.length j/\Hid (c=(((hX l).take k).filter λo=> !decide (o.id∈a)).map (·.id))/\c.length<=k/\Zr v.heap.size wr p j c/\J [] v wr) (λ_ D _=>l.length-(intOf D).toNat)
 case atStart=>exact⟨0,[],none,0,L_ _,gn,rfl,O (by simp),H_ _,Zr.nil,F_ _ _⟩
 obtain⟨k,c,p,j,hk,rfl,rfl,M,ai,u,r⟩:=hrel;have I:=ah.trans r;have b1:=I.f_ P H;by_cases R:k<l.length
 .obtain⟨b,off,bo,bj,bn⟩:=S.at_ R;have aj:Ls wr L a:=Sl.hF h1 r;have t:=O (pY L c1 a l[k].o.id wr aj (by omega));have ak:k<(hX l).length:=by rw[h5];exact R
  have i:=O (show(((hX l).take (k+1)).filter (λo=> !decide (o.id∈a))).map (·.id)=c++(if decide (l[k].o.id∈a)=true then[] else[l[k].o.id]) by
   rw[Q_ ak,HH,Gd,M.out,Hr];have e:(hX l)[k]=l[k].o:=by simp[hX]
   rw[e];by_cases q:l[k].o.id∈a<;>simp[q])
  generalize l[k]=g at *;subst bo;have E:=I.f_ bj H;cases f:decide (g.o.id∈a)with
  |true=>
   rw[f]at t i;have a8:=O (show c=(((hX l).take (k+1)).filter λo=> !decide (o.id∈a)).map (·.id) by rw[i.out];simp);go_wp2_with (go_at_call 18;refine t.out.mono ?_;rintro e az⟨rfl,rfl⟩);go_roundw;exact⟨k+1,c,p,j,X,gn,rfl,a8,X,u,r⟩;exact mz
  |false=>
   rw[f]at t i;have a8:=O (show c++[g.o.id]=(((hX l).take (k+1)).filter λo=> !decide (o.id∈a)).map (·.id) by rw[i.out];rfl);have N:=r.trans ((F_ [] wr).alloc (.cells #[Y g.o.id] 2));have a6:=Zr.hF u ((F_ [] wr).alloc (.cells #[Y g.o.id] 2));have al:=Ls.one wr g.o.id;go_wp2_with (first|(go_at_call 18;refine t.out.mono ?_;rintro e az⟨rfl,rfl⟩)|(at_builtin;refine CZ a6 al N.size (by omega) ?_;intro b0 cq bN ei an));have ap:=an.gr [] v (H_ _) N;go_roundw;exact⟨k+1,c++[g.o.id],b0,cq,X,gn,by rw[I_];rfl,a8,by rw[I_];exact Nat.add_le_add_right ai 1,ei,ap⟩;exact mz
 have a8:=O (show c=((hX l).filter λo=> !decide (o.id∈a)).map (·.id) by rw[M.out,F7 (by rw[h5];omega)]);go_wp2;rw[ao.out,<-a8.out];exact⟨p,j,rfl,u.ls,iY u,s.trans I⟩
def TB(w:World)(v:Value):Prop:=∃(A:OA) (c:Nat) (ts:QB),v=.slice A ts.length c/\TM w A ts/\(jM (ts.map Tk.p)).length<=700000000/\∀t∈ts,t.gs.l.length<=300000000/\t.rs.l.length<=300000000/\t.ws.l.length<=300000000
def HB(w:World)(v:Value):Prop:=∃(A:OA) (c:Nat) (l:QT),v=.agg #[.slice A l.length c]/\Os w A l/\l5 w l/\l.length<=50000000/\(0:Int)∉iQ (hX l)/\(∀x∈iQ (hX l),mH x)/\(jr (hX l)).length<=600000000
def TB.gr{w:World}{v:Value}(h:TB w v)(k:J [] w w'):TB w' v:=by
 obtain⟨A,d,ts,f,g,j,c⟩:=h;exact⟨A,d,ts,f,g.hF k,j,c⟩
def HB.gr{w:World}{v:Value}(h:HB w v)(k:J [] w w'):HB w' v:=by
 obtain⟨A,f,l,g,j,c,d⟩:=h;exact⟨A,f,l,g,Sl.hF j k,c.hF k,d⟩
def HB.iq{w:World}{v:Value}{g:Nat}{t:TypeId}{cs:Array Value}(h:HB w v)(d:Bk w g t cs)(q:56≠t)(r:38≠t)(k:J [g] w w'):HB w' v:=by
 obtain⟨A,o,l,p,s,c,n⟩:=h;exact⟨A,o,l,p,Sl.iq s d q k,λj f=>⟨Sl.iq (c j f).1 d r k,(c j f).2⟩,n⟩
def HB.open{w:World}{v:Value}(h:HB w v):∃(A:OA) (c:Nat) (l:QT),v=.agg #[.slice A l.length c]/\HM w A l/\Os w A l/\l5 w l/\(jr (hX l)).length<=600000000:=by
 obtain⟨A,c,l,p,f,d,g,o,j,n⟩:=h;exact⟨A,c,l,p,⟨⟨_,f.e⟩,⟨_,d.e⟩,g,o,j⟩,f,d,n⟩
def TM.vf{w:World}{ts:QB}(h:TM w A ts)(c:Nat)(g:(jM (ts.map Tk.p)).length<=700000000)(f:∀t∈ts,t.gs.l.length<=300000000/\t.rs.l.length<=300000000/\t.ws.l.length<=300000000):Calls prog 29 #[.slice A ts.length c] w (jR (kH (jM (ts.map Tk.p))) w):=by
 obtain⟨e,k⟩:=h.row;exact v_ A c ts w k h.ye X ⟨h.len,λt d=>⟨(f t d).1,(f t d).2.1,(f t d).2.2,(h.lens t d).2.2.2.1,(h.lens t d).2.2.2.2⟩⟩
def TB.roots{w:World}{v:Value}(h:TB w v):∃L:List Int,L.length<=1000000000/\∀w',J [] w w'->Calls prog 28 #[v] w' (jR L w')/\Calls prog 29 #[v] w' (jR L w'):=by
 obtain⟨A,c,ts,rfl,d,g,f⟩:=h;have:=pu (l:=jM (ts.map Tk.p));exact⟨kH (jM (ts.map Tk.p)),X,λw' k=>⟨(d.hF k).roots c,(d.hF k).vf c g f⟩⟩
def HB.coll{w:World}{v:Value}(s:HB w b)(f:TB w v):∃(h:QQ) (n:Nat),n<=50000000/\∀w',J [] w w'->Calls prog 31 #[b,v] w' (uT h n w')/\Calls prog 32 #[b,v] w' (uT h n w'):=by
 obtain⟨A,j,ts,rfl,d,p,g⟩:=f;obtain⟨B,u,l,rfl,c,q,o,t⟩:=HB.open s;have y:=pu (l:=jM (ts.map Tk.p));exact⟨uL (hX l) (ts.map Tk.p),l.length,c.len,λw' k=>⟨uM (c.hF k) (d.hF k),x0 (Sl.hF q k) (o.hF k) c.len (λz r=>(d.hF (k.trans r)).vf j p g) X⟩⟩
def HB.E9{w:World}{v:Value}(q:HB w b)(f:TB w v):∃L:List Int,L.length<=1000000000/\∀w',J [] w w'->Calls prog 33 #[b,v] w' (jR L w')/\Calls prog 34 #[b,v] w' (jR L w'):=by
 obtain⟨A,h,ts,rfl,d,n,g⟩:=f;obtain⟨B,s,l,rfl,c,o,j,r⟩:=HB.open q;have y:=pu (l:=jM (ts.map Tk.p));have u:=c.len;have t:(qa (hX l) (ts.map Tk.p)).length<=l.length:=by
  unfold qa;rw[Gg,<-h5 l];exact GC _ _
 exact⟨qa (hX l) (ts.map Tk.p),X,λw' k=>⟨uG (c.hF k) (d.hF k),xR (Sl.hF o k) (j.hF k) c.len (λz p=>(d.hF (k.trans p)).vf h n g) X⟩⟩
def HB.reach{w:World}{c:OA}{rs:QR}(p:HB w b)(h:Sl w aJ 1 c rs.length (zs rs))(t:rs.length<=1000)(d:Nat):∃L:List Int,L.length<=1000000000/\∀w',J [] w w'->Calls prog 35 #[b,.slice c rs.length d] w' (jR L w')/\Calls prog 36 #[b,.slice c rs.length d] w' (jR L w'):=by
 obtain⟨B,g,l,rfl,f,o,j,q⟩:=HB.open p;have s:=f.len;have r:(lk (hX l) rs).length<=l.length:=by
  have:=lz _ (l:=iQ (hX l)) (jF (hX l) rs).nodup λx n=>(((jF (hX l) rs).mem x).1 n).ids;unfold iQ at this;rw[Gg,h5]at this;exact this
 exact⟨lk (hX l) rs,X,λw' k=>⟨(f.hF k).reach g d (Sl.hF h k) X,pA B g l c d rs w' (Os.e (Sl.hF o k)) (l5.e (j.hF k)) X (Sl.hF h k) X⟩⟩
def HB.ok{w:World}{l:QT}{c:Nat}(n:Os w A l)(j:l5 w l)(h:Fr (hX l)):HB w (.agg #[.slice A l.length c]):=by
 have o:=h.size;rw[h5]at o;refine⟨A,c,l,rfl,n,j,X,λg=>?_,λx g=>?_,?_⟩;obtain⟨f,d,e⟩:=Ge.1 g;have:=h.ids f d;omega;obtain⟨f,d,rfl⟩:=Ge.1 g;have:=h.ids f d;exact WalkArith.wf_i64 X;have:=oR (h:=hX l) λf d=>by have:=(h.fields f d).1;omega
 rw[h5]at this;omega
def TB.nil(w:World):TB w n_:=
 ⟨none,0,[],rfl,⟨⟨48,GU _ _ _ _⟩,λd c=>(by cases c),(by simp[jM]),L_ _,λd c=>(by cases c)⟩,(by simp[jM]),λd c=>(by cases c)⟩
def TB.raw{w:World}{TA:OA}{tc:Nat}{ts:QB}(h:Sl w a8 48 TA ts.length (ts.flatMap λt=>t.g_.toList))(g:∀t∈ts,rC w t)(r:ts.length<=4)(f:∀t∈ts,t.gs.l.length<=2000000/\t.rs.l.length<=2000000/\t.ws.l.length<=2000000/\t.ds.l.length<=2000000/\t.nw.l.length<=2000000/\(jr (hX t.nw.l)).length<=2000000):TB w (.slice TA ts.length tc):=by
 have o:=ri (ts:=ts.map Tk.p) (n:=18000000) λt d=>by
  obtain⟨c,p,rfl⟩:=Ge.1 d;have D:=f c p;have v:=mQ c.p.gs;have y:=mQ c.p.rs;have z:=mQ c.p.ws;have aJ:c.p.gs.length=c.gs.l.length:=rfl;have q:c.p.rs.length=c.rs.l.length:=rfl;have u:c.p.ws.length=c.ws.l.length:=rfl;have s:c.p.ds.length=c.ds.l.length:=rfl;have j:c.p.nw=hX c.nw.l:=rfl;unfold lj;simp only[I_,Gg];rw[j];omega
 rw[Gg]at o;exact⟨TA,tc,ts,rfl,⟨⟨_,h⟩,g,X,X,λt d=>by have:=f t d;omega⟩,X,λt d=>by have:=f t d;omega⟩
def qp(g:Nat):List Rw:=[⟨⟨1,[⟨false,0⟩]⟩,j_ g,1⟩,⟨⟨2,[]⟩,none,0⟩,⟨⟨3,[]⟩,none,0⟩]
def t26(g:Nat):Tk:={Tk.zero with rs:=⟨j_ g,1,[⟨1,0,⟨true,3⟩⟩]⟩}
def Ee{g:Nat}{P:Int->Prop}(r:uV (hX (qp g)) P x):P x:=by
 induction r with
 |root a _=>exact a
 |step _ f d h _ _=>
  exfalso;have c:=oE f;simp[hX,qp]at c;rcases c with rfl|rfl|rfl<;>simp at d
  subst d;simp[isRef]at h
def rq{g:Nat}{ts:QG}(d:x∈iQ (hX (qp g))):x∈mD (hX (qp g)) ts↔x∈kH (jM ts):=by
 unfold mD;rw[(jF _ _).mem];exact⟨Ee,λc=>.root c d⟩
def DK(g:Nat):(qa (hX (qp g)) []).length=2:=by
 have d:(1:Int)∈mD (hX (qp g)) []:=(rq (by simp[iQ,hX,qp])).2 I;have f:(2:Int)∉mD (hX (qp g)) []:=λc=>Gc ((rq (by simp[iQ,hX,qp])).1 c) I;have h:(3:Int)∉mD (hX (qp g)) []:=λc=>Gc ((rq (by simp[iQ,hX,qp])).1 c) I;unfold qa;generalize mD (hX (qp g)) []=a at*;simp[hX,qp,d,f,h]
def DQ(g c:Nat):(uL (hX (qp g)) [(t26 c).p]).length=2:=by
 have e:kH (jM [(t26 c).p])=[1,3]:=by show kH [1,1,3]=[1,3];decide
 have d:(1:Int)∈mD (hX (qp g)) [(t26 c).p]:=(rq (by simp[iQ,hX,qp])).2 (by rw[e];decide);have f:(2:Int)∉mD (hX (qp g)) [(t26 c).p]:=λj=>Gc ((rq (by simp[iQ,hX,qp])).1 j) (by rw[e];decide);have h:(3:Int)∈mD (hX (qp g)) [(t26 c).p]:=(rq (by simp[iQ,hX,qp])).2 (by rw[e];decide);unfold uL;generalize mD (hX (qp g)) [(t26 c).p]=a at*;simp[hX,qp,d,f,h]
def TM.nil(w:World)(A:OA):TM w A []:=⟨⟨0,rfl,λd=>Gc d (Nat.lt_irrefl 0)⟩,λf c=>(by cases c),by decide,by decide,λf c=>(by cases c)⟩
def qi{w:World}:Calls prog 27 #[] w λe w'=>e=.returned (.bool true)/\J [] w w':=by
 refine h6 λQ ao=>?_;obtain⟨bo,j,F,co,T,hg1,bJ,u,g⟩:=tP w 38 #[.bool false,Y 0] 56 #[Y 1,.slice (j_ w.heap.size) 1 1,Y 2,n_,Y 3,n_];obtain⟨f,aM,aV,Np,M,s⟩:=box1 bo 35 #[.slice (j_ (w.heap.size+1)) 3 3];have X:=bJ.trans M;replace u:=u.hF M;replace g:=g.hF M;obtain⟨d,R⟩:=mn_ f.heap.size;obtain⟨H,D,h⟩:=pZ f 116 #[Y 1,Y 0,.bool true,Y 3] 53 (t26 d).g_;obtain⟨P,ad⟩:=mn_ (d+1);rw[R]at H;rw[R,ad]at D;rw[T,hg1]at s aV;rw[T]at g co;have m:=X.trans h;have N:HM ((f.alloc (.cells #[Y 1,Y 0,.bool true,Y 3] 116)).alloc (.cells (t26 d).g_ 53)) (j_ F) (qp j):=by
  refine⟨⟨56,Sl.hF (⟨rfl,λ_=>⟨F,0,_,(0,0),rfl,g,λV W q=>by simpa[iT,Rw.E,qp]using q⟩⟩:Sl f 56 2 (j_ F) (qp j).length (iT (qp j))) h⟩,⟨λ_=>38,λag y=>?_⟩,(by show 3<=50000000;decide),by simp[iQ,hX,qp],λx U=>?_⟩;simp[qp]at y;rcases y with rfl|rfl|rfl
  exact⟨(Dg (v:=⟨false,0⟩) u).hF h,by show 1<=1000000000;decide⟩;exact⟨GU _ _ _ _,I⟩;exact⟨GU _ _ _ _,I⟩;simp[iQ,hX,qp]at U;rcases U with rfl|rfl|rfl<;>rfl
 have z:TM ((f.alloc (.cells #[Y 1,Y 0,.bool true,Y 3] 116)).alloc (.cells (t26 d).g_ 53)) (j_ P) [t26 d]:=by
  refine⟨⟨53,⟨rfl,λ_=>⟨P,0,_,(0,0),rfl,D,λV W q=>by simpa using q⟩⟩⟩,λah L=>?_,(by show([1,1,3]:QR).length<=1000000000;decide),(by show 1<=1000000000;decide),λah L=>?_⟩;rw[J_.1 L];refine⟨⟨0,GU _ _ _ _⟩,⟨116,⟨rfl,λ_=>⟨d,0,_,(0,0),rfl,H,λV W q=>by simpa[t26,Cl.E]using q⟩⟩⟩,⟨0,GU _ _ _ _⟩,⟨0,GU _ _ _ _⟩,⟨0,GU _ _ _ _⟩,⟨λ_=>0,λag y=>by cases y⟩⟩;rw[J_.1 L];exact(by decide:0<=1000000000/\1<=1000000000/\0<=1000000000/\0<=1000000000/\0<=1000000000)
 have i:=O ((uG (hc:=3) (tc:=0) N (TM.nil ((f.alloc (.cells #[Y 1,Y 0,.bool true,Y 3] 116)).alloc (.cells (t26 d).g_ 53)) none)).mono (R':=λe w'=>∃A c,e=.returned (.slice A 2 c)/\J [] ((f.alloc (.cells #[Y 1,Y 0,.bool true,Y 3] 116)).alloc (.cells (t26 d).g_ 53)) w') λe w'⟨A,c,n,_,_,o⟩=>⟨A,c,by rw[n];show Ending.returned (.slice A (qa (hX (qp j)) []).length c)=_;rw[DK],o⟩);have Z:=O (λ(w':World)(t:J [] ((f.alloc (.cells #[Y 1,Y 0,.bool true,Y 3] 116)).alloc (.cells (t26 d).g_ 53)) w')=>(uM (hc:=3) (tc:=1) (N.hF t) (z.hF t)).mono (R':=λe r=>∃A c,e=.returned (.agg #[.slice A 2 c])/\J [] w' r) λe r⟨A,c,l',n,h3,_,_,_,o⟩=>⟨A,c,by
  have S:=Z_ List.length h3;rw[h5]at S;rw[n,S];show Ending.returned (.agg #[.slice A (uL (hX (qp j)) [(t26 d).p]).length c])=_;rw[DQ],o⟩)
 have dC:=O (λ(w':World)(t:J [] ((f.alloc (.cells #[Y 1,Y 0,.bool true,Y 3] 116)).alloc (.cells (t26 d).g_ 53)) w')=>((z.hF t).roots 1).mono (R':=λe r=>∃A c,e=.returned (.slice A 2 c)/\J [] w' r) λe r⟨A,c,n,_,_,o⟩=>⟨A,c,n,o⟩);have aj:=(s.hF h).f_ 0;have bW:=s.hF h;clear z N u g s H D;go_enter func27,ntmps27;go_upto_region 3 with fail;have G:=DN
 conv=>arg 5;change((f.alloc (.cells #[Y 1,Y 0,.bool true,Y 3] 116)).alloc (.cells (t26 d).g_ 53))
 generalize ((f.alloc (.cells #[Y 1,Y 0,.bool true,Y 3] 116)).alloc (.cells (t26 d).g_ 53))=a2 at*
 go_wp2_with (first
  |(go_at_call 33;refine i.out.mono ?_;rintro e af⟨aY,c3,rfl,a⟩;have aS:=(bW.hF a).f_ 0)
  |(go_at_call 31;refine(Z.out _ a).mono ?_;rintro e ae⟨aO,c4,rfl,b⟩)
  |(go_at_call 28;refine(dC.out _ (a.trans b)).mono ?_;rintro e Nq⟨aW,c5,rfl,ai⟩))
 rw[ao.out];exact⟨rfl,m.trans ((a.trans b).trans ai)⟩

